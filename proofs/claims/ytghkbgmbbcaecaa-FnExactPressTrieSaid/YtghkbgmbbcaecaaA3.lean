import Derived.Test.YtghkbgmbbcaecaaA0
import Derived.Test.YtghkbgmbbcaecaaA1
import Derived.Test.YtghkbgmbbcaecaaA2
import Derived.Test.YtghkbgmbbcaecaaAwWords
import Derived.Test.YtghkbgmbbcaecaaAwLast
import Derived.Test.YtghkbgmbbcaecaaAwTab
import Derived.Test.YtghkbgmbbcaecaaAwApart
import Derived.Test.YtghkbgmbbcaecaaAwFoot
import Derived.Test.YtghkbgmbbcaecaaAwKept
import Derived.Test.YtghkbgmbbcaecaaAwShare
import Derived.Test.YtghkbgmbbcaecaaAwN
import Derived.Test.YtghkbgmbbcaecaaAwEqStruct
import Derived.Test.YtghkbgmbbcaecaaAwRepsOne
import Derived.Test.YtghkbgmbbcaecaaAwGuard
import Derived.Test.YtghkbgmbbcaecaaAwMore
import Derived.Test.YtghkbgmbbcaecaaProg
import Derived.Below
import Derived.Deep.Draws
import Derived.Deep.AppendLies
import Derived.Maps.AppendAt
import Derived.OwnWalk
import Derived.Laws.BytesArg
import Derived.Laws.MakeOwn
import Derived.Laws.OwnMore
import Derived.Deep.OwnRows
import Derived.Tactics
import Derived.Lib.ConvBytes
import Derived.Laws.Slices
import Derived.WalkKit
import Derived.KernelRfl
import Derived.RowKit3
import Derived.Deep.LoopGhost
import Derived.Deep.QuietTactic
import Derived.BigQuiet
import Derived.WideLaws
import Derived.Deep.DeepCutAuto
import Derived.Deep.CutBlock
import Derived.Deep.RegionHeld3
import Derived.Laws.Rows
import Derived.Lib.AppendStr
import Derived.ArgAppend
import Derived.Laws.IdiomCopy
import Derived.OrdersHeld
import Derived.Laws.BitsLemmas
import Derived.RowKit
import Derived.Lib.SlicesCompact
import Derived.Maps.Own
import Derived.StringKeys
import Derived.Maps.OwnOps
import Derived.Maps.OwnSet
import Derived.Maps.Views
import Derived.Laws.AppendOwn
import Derived.Deep.DrawnRows
import Derived.Shelf.Sort.Plain
import Derived.Shelf.Slices.CompactS
import Derived.Shelf.Slices.In.SortNone
import Derived.RangeFuncBox
import Derived.RangeFuncLeaves
import Derived.Shelf.Abstract
import Derived.OwnWalkIn
import Derived.TacticsInMore
import Derived.LoopNIn
import Derived.LoopIn
import Derived.Lib.OwnBridge
import Derived.Sort.OwnSorted
import Derived.Sort.Grow
import Derived.Shelf.Strings.OnBuilder
import Derived.Ground.NamesProg
import Derived.Ground.SlgfProg
import Derived.Sort.Walk0
import Derived.Lib.Strings
set_option linter.unusedVariables false
set_option linter.unusedSimpArgs false
namespace Go.Proofs.Ytghkbgmbbcaecaa.Q
open Go.RowKit Go.Proofs.YtghkbgmbbcaecaaW.PrintWords Go.Proofs.YtghkbgmbbcaecaaW.PrintLast Go.Proofs.YtghkbgmbbcaecaaW.PrintMore
attribute [local go_sem] run_field_23 run_field_24 run_field_31 run_field_32 run_field_35 run_field_36 isSome_setCell max2_int min2_int max_two min_two max_three min_three max_four min_four   -- for this text's walks alone
set_option linter.unusedVariables false
set_option linter.unusedSimpArgs false
def spec_PressTrie.f (k:Nat) (l0_0:List (S62)):Option ((List (S69)) × Bool):=(spec_l2Trie.f k l0_0).bind fun t351=>(if t351=true then ((spec_l4Press.f k l0_0).bind fun t352=>(some (t352,true))) else (some (([]:List (S69)),false)))
set_option maxHeartbeats 8000000 in
set_option maxRecDepth 100000 in
theorem spec_PressTrie.calls (k:Nat) (A0_0:Option Addr) (c0_0:Nat) (l0_0:List (S62)) (r1:List (S69)) (r2:Bool) (w:World) (hr0_0:Kd.C k62 w A0_0 l0_0.length l0_0) (hc0_0:l0_0.length≤c0_0) (h:spec_PressTrie.f k l0_0=some (r1,r2)) :
  Calls Try.prog 11 #[.agg #[.slice A0_0 l0_0.length c0_0]] w fun e w'=>∃ v0_:Value,e=.returned (.tuple #[.agg #[v0_],.bool r2])∧Kd.R k69 69 w' w.heap.size (fun _=>True) v0_ r1∧Below w.heap.size w w':=by
 have hu24:=Try.underlying24
 have hu36:=Try.underlying36
 have HR0_0:=Zz.mk hr0_0
 have HC0_0:=Zz.mk hc0_0
 clear hr0_0 hc0_0
 have HB:=Zz.mk (Below.refl w.heap.size w)
 have H:((spec_l2Trie.f k l0_0).bind fun t351=>(if t351=true then ((spec_l4Press.f k l0_0).bind fun t352=>(some (t352,true))) else (some (([]:List (S69)),false))))=some (r1,r2):=h
 clear h
 replace H:=Option.bind_eq_some_iff.mp H
 obtain ⟨t351,A20,H⟩:=H
 replace H:(if t351=true then ((spec_l4Press.f k l0_0).bind fun t352=>(some (t352,true))) else (some (([]:List (S69)),false)))=some (r1,r2):=H
 have A2:=Zz.mk A20
 clear A20
 by_cases c3:t351=true
 ·subst c3
  have H1:((spec_l4Press.f k l0_0).bind fun t352=>(some (t352,true)))=some (r1,r2):=by rw [if_pos rfl] at H;exact H
  clear H
  have H:=H1
  clear H1
  replace H:=Option.bind_eq_some_iff.mp H
  obtain ⟨t352,A40,H⟩:=H
  replace H:(some (t352,true))=some (r1,r2):=H
  have A4:=Zz.mk A40
  clear A40
  simp only [Option.some.injEq,Prod.mk.injEq] at H
  obtain ⟨rfl,rfl⟩:=H
  go_enter Try.func11,Try.ntmps11
  go_wp2_with (first|((with_reducible refine gate_dst (N:=1) rfl ?_);refine box_event ?hg (N:=1) ?hd (cs:=#[.slice A0_0 l0_0.length c0_0]) (t:=24) ?hr ?_;(case hd=>rfl);(case hg=>rfl);(case hr=>first|(go_simp;done)|(go_simp;rfl));intro gb349 hg w5 hbox hb;have n0_:=Zz.mk (qP (by repeat (first|(with_reducible first|exact HB.out|apply qA|apply qN|apply q1_)|exact HB.out)) hb);have n1_:=Zz.mk (hbox);have n2_:=Zz.mk ((by rw [hg];exact (qZ (by repeat (first|(with_reducible first|exact HB.out|apply qA|apply qN|apply q1_)|exact HB.out))):w.heap.size≤gb349));have n3_:=Zz.mk ((by rw [hg];exact (qZ (by repeat (first|(with_reducible first|exact HB.out|apply qA|apply qN|apply q1_)|exact HB.out))):w.heap.size≤gb349));clear HB;have HB:=n0_;have BK349:=n1_;have GW349:=n2_;have GE349:=n3_;clear n0_ n1_ n2_ n3_;clear hb hbox hg)|((with_reducible refine gate_dst (N:=2) rfl ?_);refine box_event ?hg (N:=2) ?hd (cs:=#[.slice none 0 0]) (t:=36) ?hr ?_;(case hd=>rfl);(case hg=>rfl);(case hr=>first|(go_simp;done)|(go_simp;rfl));intro gb350 hg w6 hbox hb;have n0_:=Zz.mk (bB (g:=gb349) (o:=.cells #[.slice A0_0 l0_0.length c0_0] 24 (0,0)) (by (with_reducible repeat first|apply bN|apply bD|apply bA);exact BK349.out) hb);have n1_:=Zz.mk (qP (by repeat (first|(with_reducible first|exact HB.out|apply qA|apply qN|apply q1_|refine qS ?_ GE349.out)|exact HB.out)) hb);have n2_:=Zz.mk (hbox);have n3_:=Zz.mk ((by rw [hg];exact (qZ (by repeat (first|(with_reducible first|exact HB.out|apply qA|apply qN|apply q1_|refine qS ?_ GE349.out)|exact HB.out))):w.heap.size≤gb350));have n4_:=Zz.mk ((by rw [hg];exact (qZ (by repeat (first|(with_reducible first|exact HB.out|apply qA|apply qN|apply q1_|refine qS ?_ GE349.out)|exact HB.out))):w.heap.size≤gb350));have n5_:=Zz.mk ((by rw [hg];exact Nat.ne_of_lt (blk_lt (g:=gb349) (o:=.cells #[.slice A0_0 l0_0.length c0_0] 24 (0,0)) (by (with_reducible repeat first|apply bN|apply bD|apply bA);exact BK349.out)):gb349 ≠ gb350));have n6_:=Zz.mk ((by rw [hg];exact Nat.ne_of_gt (blk_lt (g:=gb349) (o:=.cells #[.slice A0_0 l0_0.length c0_0] 24 (0,0)) (by (with_reducible repeat first|apply bN|apply bD|apply bA);exact BK349.out)):gb350 ≠ gb349));clear BK349;clear HB;have BK349:=n0_;have HB:=n1_;have BK350:=n2_;have GW350:=n3_;have GE350:=n4_;have NB349_350:=n5_;have NB350_349:=n6_;clear n0_ n1_ n2_ n3_ n4_ n5_ n6_;clear hb hbox hg;have hnb7:=NB349_350.out;have hnc7:=NB350_349.out;have hcz8_0:w6.cell? ⟨gb349,0,none⟩=some (.slice A0_0 l0_0.length c0_0):=(bC BK349.out 0).trans rfl;have hfz8_0:=bF BK349.out 0)|((with_reducible refine gate_callee (f:=24) rfl ?_);refine goesL_ (some 5) rfl rfl Try.func24 (by kernel_rfl) rfl #[.agg #[.slice A0_0 l0_0.length c0_0]] rfl (by (try simp only [List.map_toArray,List.map_cons,List.map_nil]);first|done|rfl|(simp only [List.length_drop,List.length_take];rfl)) ?_;(with_reducible refine (spec_l2Trie.calls k _ _ l0_0 true _ ?side1 ?side2 A2.out).mono ?_);(case side1=>repeat (first|exact (Kd.C_below HR0_0.out HB.out)|(with_reducible refine Kd.C_alloc ?_ _)|(with_reducible refine Kd.C_drewN ?_ _)|(with_reducible refine Kd.C_drew ?_)));(case side2=>exact HC0_0.out);rintro e w9 ⟨rfl,hb⟩;refine ⟨_,rfl,?_⟩;have n0_:=Zz.mk (bB (g:=gb349) (o:=.cells #[.slice A0_0 l0_0.length c0_0] 24 (0,0)) (by (with_reducible repeat first|apply bN|apply bD|apply bA);exact BK349.out) hb);have n1_:=Zz.mk (bB (g:=gb350) (o:=.cells #[.slice none 0 0] 36 (0,0)) (by (with_reducible repeat first|apply bN|apply bD|apply bA);exact BK350.out) hb);have n2_:=Zz.mk (qP (by repeat (first|(with_reducible first|exact HB.out|apply qA|apply qN|apply q1_|refine qS ?_ GE349.out|refine qS ?_ GE350.out)|exact HB.out)) hb);clear BK349;clear BK350;clear HB;have BK349:=n0_;have BK350:=n1_;have HB:=n2_;clear n0_ n1_ n2_;(try clear hb);(try clear hb2);(try clear hk);(try clear hi);have hcz10_0:w9.cell? ⟨gb349,0,none⟩=some (.slice A0_0 l0_0.length c0_0):=(bC BK349.out 0).trans rfl;have hfz10_0:=bF BK349.out 0)|((with_reducible refine gate_callee (f:=25) rfl ?_);refine goesL_ (some 9) rfl rfl Try.func25 (by kernel_rfl) rfl #[.agg #[.slice A0_0 l0_0.length c0_0]] rfl (by (try simp only [List.map_toArray,List.map_cons,List.map_nil]);first|done|rfl|(simp only [List.length_drop,List.length_take];rfl)) ?_;(with_reducible refine (spec_l4Press.calls k _ _ l0_0 t352 _ ?side1 ?side2 A4.out).mono ?_);(case side1=>repeat (first|exact (Kd.C_below HR0_0.out HB.out)|(with_reducible refine Kd.C_alloc ?_ _)|(with_reducible refine Kd.C_drewN ?_ _)|(with_reducible refine Kd.C_drew ?_)));(case side2=>exact HC0_0.out);rintro e w11 ⟨v353,rfl,ho0,hb⟩;refine ⟨_,rfl,?_⟩;have n0_:=Zz.mk (Kd.R_lower ho0 (qZ (by repeat (first|(with_reducible first|exact HB.out|apply qA|apply qN|apply q1_|refine qS ?_ GE349.out|refine qS ?_ GE350.out)|exact HB.out))));have n1_:=Zz.mk (bB (g:=gb349) (o:=.cells #[.slice A0_0 l0_0.length c0_0] 24 (0,0)) (by (with_reducible repeat first|apply bN|apply bD|apply bA);exact BK349.out) hb);have n2_:=Zz.mk (bB (g:=gb350) (o:=.cells #[.slice none 0 0] 36 (0,0)) (by (with_reducible repeat first|apply bN|apply bD|apply bA);exact BK350.out) hb);have n3_:=Zz.mk (qP (by repeat (first|(with_reducible first|exact HB.out|apply qA|apply qN|apply q1_|refine qS ?_ GE349.out|refine qS ?_ GE350.out)|exact HB.out)) hb);clear BK349;clear BK350;clear HB;have HO354:=n0_;have BK349:=n1_;have BK350:=n2_;have HB:=n3_;clear n0_ n1_ n2_ n3_;(try clear hb);(try clear hb2);(try clear hk);(try clear hi);(try clear ho0);obtain ⟨Ao12,co12,eo12⟩:=Kd.R_slice HO354.out;subst eo12;have hcz13_0:w11.cell? ⟨gb350,0,none⟩=some (.slice none 0 0):=(bC BK350.out 0).trans rfl;have hfz13_0:=bF BK350.out 0))
  refine bodyPost_ret (results_ct rfl _ _ gb350 36 #[.slice Ao12 t352.length co12] (0,0) _ rfl (by (with_reducible repeat first|apply bN|apply bD|apply bA);refine blk_put (cs:=#[.slice none 0 0]) ?_ 0 _ rfl;(with_reducible repeat first|apply bN|apply bD|apply bA);exact BK350.out) Try.underlying36 rfl (by kernel_rfl)) rfl ?_
  exact ⟨_,by first|rfl|(simp [errW_none,errW_some] <;> rfl)|(simp [*,errW_none,errW_some] <;> rfl),by (with_reducible repeat first|apply Kd.R_alloc|apply Kd.R_drewN|apply Kd.R_drew);exact Kd.R_mono (R_same_ (Kd.R_far (p:=⟨gb350,0,none⟩) (Kd.R_types HO354.out BK350.out (by decide)) (fun _ hk=>hk.2) (.slice Ao12 t352.length co12)) rfl) (fun _ hk=>trivial),by repeat (first|(with_reducible first|exact HB.out|apply qA|apply qN|apply q1_|refine qS ?_ GE349.out|refine qS ?_ GE350.out)|exact HB.out)⟩
 ·replace c3:=Bool.eq_false_iff.mpr c3
  subst c3
  have H1:(some (([]:List (S69)),false))=some (r1,r2):=by rw [if_neg (show ¬ (false=true) by decide)] at H;exact H
  clear H
  have H:=H1
  clear H1
  simp only [Option.some.injEq,Prod.mk.injEq] at H
  obtain ⟨rfl,rfl⟩:=H
  go_enter Try.func11,Try.ntmps11
  go_wp2_with (first|((with_reducible refine gate_dst (N:=1) rfl ?_);refine box_event ?hg (N:=1) ?hd (cs:=#[.slice A0_0 l0_0.length c0_0]) (t:=24) ?hr ?_;(case hd=>rfl);(case hg=>rfl);(case hr=>first|(go_simp;done)|(go_simp;rfl));intro gb349 hg w14 hbox hb;have n0_:=Zz.mk (qP (by repeat (first|(with_reducible first|exact HB.out|apply qA|apply qN|apply q1_)|exact HB.out)) hb);have n1_:=Zz.mk (hbox);have n2_:=Zz.mk ((by rw [hg];exact (qZ (by repeat (first|(with_reducible first|exact HB.out|apply qA|apply qN|apply q1_)|exact HB.out))):w.heap.size≤gb349));have n3_:=Zz.mk ((by rw [hg];exact (qZ (by repeat (first|(with_reducible first|exact HB.out|apply qA|apply qN|apply q1_)|exact HB.out))):w.heap.size≤gb349));clear HB;have HB:=n0_;have BK349:=n1_;have GW349:=n2_;have GE349:=n3_;clear n0_ n1_ n2_ n3_;clear hb hbox hg)|((with_reducible refine gate_dst (N:=2) rfl ?_);refine box_event ?hg (N:=2) ?hd (cs:=#[.slice none 0 0]) (t:=36) ?hr ?_;(case hd=>rfl);(case hg=>rfl);(case hr=>first|(go_simp;done)|(go_simp;rfl));intro gb350 hg w15 hbox hb;have n0_:=Zz.mk (bB (g:=gb349) (o:=.cells #[.slice A0_0 l0_0.length c0_0] 24 (0,0)) (by (with_reducible repeat first|apply bN|apply bD|apply bA);exact BK349.out) hb);have n1_:=Zz.mk (qP (by repeat (first|(with_reducible first|exact HB.out|apply qA|apply qN|apply q1_|refine qS ?_ GE349.out)|exact HB.out)) hb);have n2_:=Zz.mk (hbox);have n3_:=Zz.mk ((by rw [hg];exact (qZ (by repeat (first|(with_reducible first|exact HB.out|apply qA|apply qN|apply q1_|refine qS ?_ GE349.out)|exact HB.out))):w.heap.size≤gb350));have n4_:=Zz.mk ((by rw [hg];exact (qZ (by repeat (first|(with_reducible first|exact HB.out|apply qA|apply qN|apply q1_|refine qS ?_ GE349.out)|exact HB.out))):w.heap.size≤gb350));have n5_:=Zz.mk ((by rw [hg];exact Nat.ne_of_lt (blk_lt (g:=gb349) (o:=.cells #[.slice A0_0 l0_0.length c0_0] 24 (0,0)) (by (with_reducible repeat first|apply bN|apply bD|apply bA);exact BK349.out)):gb349 ≠ gb350));have n6_:=Zz.mk ((by rw [hg];exact Nat.ne_of_gt (blk_lt (g:=gb349) (o:=.cells #[.slice A0_0 l0_0.length c0_0] 24 (0,0)) (by (with_reducible repeat first|apply bN|apply bD|apply bA);exact BK349.out)):gb350 ≠ gb349));clear BK349;clear HB;have BK349:=n0_;have HB:=n1_;have BK350:=n2_;have GW350:=n3_;have GE350:=n4_;have NB349_350:=n5_;have NB350_349:=n6_;clear n0_ n1_ n2_ n3_ n4_ n5_ n6_;clear hb hbox hg;have hnb16:=NB349_350.out;have hnc16:=NB350_349.out;have hcz17_0:w15.cell? ⟨gb349,0,none⟩=some (.slice A0_0 l0_0.length c0_0):=(bC BK349.out 0).trans rfl;have hfz17_0:=bF BK349.out 0)|((with_reducible refine gate_callee (f:=24) rfl ?_);refine goesL_ (some 5) rfl rfl Try.func24 (by kernel_rfl) rfl #[.agg #[.slice A0_0 l0_0.length c0_0]] rfl (by (try simp only [List.map_toArray,List.map_cons,List.map_nil]);first|done|rfl|(simp only [List.length_drop,List.length_take];rfl)) ?_;(with_reducible refine (spec_l2Trie.calls k _ _ l0_0 false _ ?side1 ?side2 A2.out).mono ?_);(case side1=>repeat (first|exact (Kd.C_below HR0_0.out HB.out)|(with_reducible refine Kd.C_alloc ?_ _)|(with_reducible refine Kd.C_drewN ?_ _)|(with_reducible refine Kd.C_drew ?_)));(case side2=>exact HC0_0.out);rintro e w18 ⟨rfl,hb⟩;refine ⟨_,rfl,?_⟩;have n0_:=Zz.mk (bB (g:=gb349) (o:=.cells #[.slice A0_0 l0_0.length c0_0] 24 (0,0)) (by (with_reducible repeat first|apply bN|apply bD|apply bA);exact BK349.out) hb);have n1_:=Zz.mk (bB (g:=gb350) (o:=.cells #[.slice none 0 0] 36 (0,0)) (by (with_reducible repeat first|apply bN|apply bD|apply bA);exact BK350.out) hb);have n2_:=Zz.mk (qP (by repeat (first|(with_reducible first|exact HB.out|apply qA|apply qN|apply q1_|refine qS ?_ GE349.out|refine qS ?_ GE350.out)|exact HB.out)) hb);clear BK349;clear BK350;clear HB;have BK349:=n0_;have BK350:=n1_;have HB:=n2_;clear n0_ n1_ n2_;(try clear hb);(try clear hb2);(try clear hk);(try clear hi);have hcz19_0:w18.cell? ⟨gb350,0,none⟩=some (.slice none 0 0):=(bC BK350.out 0).trans rfl;have hfz19_0:=bF BK350.out 0))
  refine bodyPost_ret (results_ct rfl _ _ gb350 36 #[.slice none 0 0] (0,0) _ rfl (by (with_reducible repeat first|apply bN|apply bD|apply bA);refine blk_put (cs:=#[.slice none 0 0]) ?_ 0 _ rfl;(with_reducible repeat first|apply bN|apply bD|apply bA);exact BK350.out) Try.underlying36 rfl (by kernel_rfl)) rfl ?_
  exact ⟨_,by first|rfl|(simp [errW_none,errW_some] <;> rfl)|(simp [*,errW_none,errW_some] <;> rfl),by first|exact Kd.R_nil _ _ _ _ _|exact Kd.N_nil _ _ _ _ _|exact Kd.V_nil _ _ _ _ _|exact Kd.Q_nil _ _ _ _ _|exact Kd.S_nil _ _ _ _ _,by repeat (first|(with_reducible first|exact HB.out|apply qA|apply qN|apply q1_|refine qS ?_ GE349.out|refine qS ?_ GE350.out)|exact HB.out)⟩
def laws_toNode.f (a0_0:Int) (a0_1:Int) (a0_2:Bool):Option (Int × Int × Bool):=some (a0_0,a0_1,a0_2)
set_option maxHeartbeats 8000000 in
set_option maxRecDepth 100000 in
theorem laws_toNode.calls (a0_0:Int) (a0_1:Int) (a0_2:Bool) (r1:Int) (r2:Int) (r3:Bool) (w:World) (h:laws_toNode.f a0_0 a0_1 a0_2=some (r1,r2,r3)) :
  Calls Try.prog 46 #[.agg #[.int .i64 a0_0,.int .i64 a0_1,.bool a0_2]] w fun e w'=>e=.returned (.agg #[.int .i64 r1,.int .i64 r2,.bool r3])∧Below w.heap.size w w':=by
 have hu72:=Try.underlying72
 have hu62:=Try.underlying62
 have HB:=Zz.mk (Below.refl w.heap.size w)
 have H:(some (a0_0,a0_1,a0_2))=some (r1,r2,r3):=h
 clear h
 simp only [Option.some.injEq,Prod.mk.injEq] at H
 obtain ⟨rfl,rfl,rfl⟩:=H
 go_enter Try.func46,Try.ntmps46
 go_wp2_with (first|((with_reducible refine gate_dst (N:=1) rfl ?_);refine box_event ?hg (N:=1) ?hd (cs:=#[.int .i64 a0_0,.int .i64 a0_1,.bool a0_2]) (t:=72) ?hr ?_;(case hd=>rfl);(case hg=>rfl);(case hr=>first|(go_simp;done)|(go_simp;rfl));intro gb355 hg w2 hbox hb;have n0_:=Zz.mk (qP (by repeat (first|(with_reducible first|exact HB.out|apply qA|apply qN|apply q1_)|exact HB.out)) hb);have n1_:=Zz.mk (hbox);have n2_:=Zz.mk ((by rw [hg];exact (qZ (by repeat (first|(with_reducible first|exact HB.out|apply qA|apply qN|apply q1_)|exact HB.out))):w.heap.size≤gb355));have n3_:=Zz.mk ((by rw [hg];exact (qZ (by repeat (first|(with_reducible first|exact HB.out|apply qA|apply qN|apply q1_)|exact HB.out))):w.heap.size≤gb355));clear HB;have HB:=n0_;have BK355:=n1_;have GW355:=n2_;have GE355:=n3_;clear n0_ n1_ n2_ n3_;clear hb hbox hg)|((with_reducible refine gate_dst (N:=2) rfl ?_);refine box_event ?hg (N:=2) ?hd (cs:=#[.int .i64 0,.int .i64 0,.bool false]) (t:=62) ?hr ?_;(case hd=>rfl);(case hg=>rfl);(case hr=>first|(go_simp;done)|(go_simp;rfl));intro gb356 hg w3 hbox hb;have n0_:=Zz.mk (bB (g:=gb355) (o:=.cells #[.int .i64 a0_0,.int .i64 a0_1,.bool a0_2] 72 (0,0)) (by (with_reducible repeat first|apply bN|apply bD|apply bA);exact BK355.out) hb);have n1_:=Zz.mk (qP (by repeat (first|(with_reducible first|exact HB.out|apply qA|apply qN|apply q1_|refine qS ?_ GE355.out)|exact HB.out)) hb);have n2_:=Zz.mk (hbox);have n3_:=Zz.mk ((by rw [hg];exact (qZ (by repeat (first|(with_reducible first|exact HB.out|apply qA|apply qN|apply q1_|refine qS ?_ GE355.out)|exact HB.out))):w.heap.size≤gb356));have n4_:=Zz.mk ((by rw [hg];exact (qZ (by repeat (first|(with_reducible first|exact HB.out|apply qA|apply qN|apply q1_|refine qS ?_ GE355.out)|exact HB.out))):w.heap.size≤gb356));have n5_:=Zz.mk ((by rw [hg];exact Nat.ne_of_lt (blk_lt (g:=gb355) (o:=.cells #[.int .i64 a0_0,.int .i64 a0_1,.bool a0_2] 72 (0,0)) (by (with_reducible repeat first|apply bN|apply bD|apply bA);exact BK355.out)):gb355 ≠ gb356));have n6_:=Zz.mk ((by rw [hg];exact Nat.ne_of_gt (blk_lt (g:=gb355) (o:=.cells #[.int .i64 a0_0,.int .i64 a0_1,.bool a0_2] 72 (0,0)) (by (with_reducible repeat first|apply bN|apply bD|apply bA);exact BK355.out)):gb356 ≠ gb355));clear BK355;clear HB;have BK355:=n0_;have HB:=n1_;have BK356:=n2_;have GW356:=n3_;have GE356:=n4_;have NB355_356:=n5_;have NB356_355:=n6_;clear n0_ n1_ n2_ n3_ n4_ n5_ n6_;clear hb hbox hg)|((with_reducible refine gate_dst (N:=3) rfl ?_);refine box_event ?hg (N:=3) ?hd (cs:=#[.int .i64 0,.int .i64 0,.bool false]) (t:=62) ?hr ?_;(case hd=>rfl);(case hg=>rfl);(case hr=>first|(go_simp;done)|(go_simp;rfl));intro gb357 hg w4 hbox hb;have n0_:=Zz.mk (bB (g:=gb355) (o:=.cells #[.int .i64 a0_0,.int .i64 a0_1,.bool a0_2] 72 (0,0)) (by (with_reducible repeat first|apply bN|apply bD|apply bA);exact BK355.out) hb);have n1_:=Zz.mk (bB (g:=gb356) (o:=.cells #[.int .i64 0,.int .i64 0,.bool false] 62 (0,0)) (by (with_reducible repeat first|apply bN|apply bD|apply bA);exact BK356.out) hb);have n2_:=Zz.mk (qP (by repeat (first|(with_reducible first|exact HB.out|apply qA|apply qN|apply q1_|refine qS ?_ GE355.out|refine qS ?_ GE356.out)|exact HB.out)) hb);have n3_:=Zz.mk (hbox);have n4_:=Zz.mk ((by rw [hg];exact (qZ (by repeat (first|(with_reducible first|exact HB.out|apply qA|apply qN|apply q1_|refine qS ?_ GE355.out|refine qS ?_ GE356.out)|exact HB.out))):w.heap.size≤gb357));have n5_:=Zz.mk ((by rw [hg];exact (qZ (by repeat (first|(with_reducible first|exact HB.out|apply qA|apply qN|apply q1_|refine qS ?_ GE355.out|refine qS ?_ GE356.out)|exact HB.out))):w.heap.size≤gb357));have n6_:=Zz.mk ((by rw [hg];exact Nat.ne_of_lt (blk_lt (g:=gb355) (o:=.cells #[.int .i64 a0_0,.int .i64 a0_1,.bool a0_2] 72 (0,0)) (by (with_reducible repeat first|apply bN|apply bD|apply bA);exact BK355.out)):gb355 ≠ gb357));have n7_:=Zz.mk ((by rw [hg];exact Nat.ne_of_gt (blk_lt (g:=gb355) (o:=.cells #[.int .i64 a0_0,.int .i64 a0_1,.bool a0_2] 72 (0,0)) (by (with_reducible repeat first|apply bN|apply bD|apply bA);exact BK355.out)):gb357 ≠ gb355));have n8_:=Zz.mk ((by rw [hg];exact Nat.ne_of_lt (blk_lt (g:=gb356) (o:=.cells #[.int .i64 0,.int .i64 0,.bool false] 62 (0,0)) (by (with_reducible repeat first|apply bN|apply bD|apply bA);exact BK356.out)):gb356 ≠ gb357));have n9_:=Zz.mk ((by rw [hg];exact Nat.ne_of_gt (blk_lt (g:=gb356) (o:=.cells #[.int .i64 0,.int .i64 0,.bool false] 62 (0,0)) (by (with_reducible repeat first|apply bN|apply bD|apply bA);exact BK356.out)):gb357 ≠ gb356));clear BK355;clear BK356;clear HB;have BK355:=n0_;have BK356:=n1_;have HB:=n2_;have BK357:=n3_;have GW357:=n4_;have GE357:=n5_;have NB355_357:=n6_;have NB357_355:=n7_;have NB356_357:=n8_;have NB357_356:=n9_;clear n0_ n1_ n2_ n3_ n4_ n5_ n6_ n7_ n8_ n9_;clear hb hbox hg;have hnb5:=NB355_356.out;have hnc5:=NB356_355.out;have hnb6:=NB355_357.out;have hnc6:=NB357_355.out;have hcz7_0:w4.cell? ⟨gb355,0,none⟩=some (.int .i64 a0_0):=(bC BK355.out 0).trans rfl;have hcz7_1:w4.cell? ⟨gb355,1,none⟩=some (.int .i64 a0_1):=(bC BK355.out 1).trans rfl;have hcz7_2:w4.cell? ⟨gb355,2,none⟩=some (.bool a0_2):=(bC BK355.out 2).trans rfl;have hfz7_0:=bF BK355.out 0;have hfz7_1:=bF BK355.out 1;have hfz7_2:=bF BK355.out 2;have hnb8:=NB357_356.out;have hnc8:=NB356_357.out;have hcz9_0:w4.cell? ⟨gb357,0,none⟩=some (.int .i64 0):=(bC BK357.out 0).trans rfl;have hcz9_1:w4.cell? ⟨gb357,1,none⟩=some (.int .i64 0):=(bC BK357.out 1).trans rfl;have hcz9_2:w4.cell? ⟨gb357,2,none⟩=some (.bool false):=(bC BK357.out 2).trans rfl;have hfz9_0:=bF BK357.out 0;have hfz9_1:=bF BK357.out 1;have hfz9_2:=bF BK357.out 2;have hcz10_0:w4.cell? ⟨gb356,0,none⟩=some (.int .i64 0):=(bC BK356.out 0).trans rfl;have hcz10_1:w4.cell? ⟨gb356,1,none⟩=some (.int .i64 0):=(bC BK356.out 1).trans rfl;have hcz10_2:w4.cell? ⟨gb356,2,none⟩=some (.bool false):=(bC BK356.out 2).trans rfl;have hfz10_0:=bF BK356.out 0;have hfz10_1:=bF BK356.out 1;have hfz10_2:=bF BK356.out 2))
 refine bodyPost_ret (results_cell_row rfl _ _ gb356 62 #[.int .i64 a0_0,.int .i64 a0_1,.bool a0_2] (0,0) _ rfl (by (with_reducible repeat first|apply bN|apply bD|apply bA);refine blk_put (cs:=#[.int .i64 a0_0,.int .i64 a0_1,.bool false]) ?_ 2 _ rfl;(with_reducible repeat first|apply bN|apply bD|apply bA);refine blk_put (cs:=#[.int .i64 a0_0,.int .i64 0,.bool false]) ?_ 1 _ rfl;(with_reducible repeat first|apply bN|apply bD|apply bA);refine blk_put (cs:=#[.int .i64 0,.int .i64 0,.bool false]) ?_ 0 _ rfl;(with_reducible repeat first|apply bN|apply bD|apply bA);refine blk_far ?_ NB356_357.out _;(with_reducible repeat first|apply bN|apply bD|apply bA);refine blk_far ?_ NB356_357.out _;(with_reducible repeat first|apply bN|apply bD|apply bA);refine blk_far ?_ NB356_357.out _;(with_reducible repeat first|apply bN|apply bD|apply bA);exact BK356.out) Try.underlying62 rfl (by kernel_rfl)) rfl ?_
 exact ⟨by first|rfl|(simp [errW_none,errW_some] <;> rfl)|(simp [*,errW_none,errW_some] <;> rfl),by repeat (first|(with_reducible first|exact HB.out|apply qA|apply qN|apply q1_|refine qS ?_ GE355.out|refine qS ?_ GE356.out|refine qS ?_ GE357.out)|exact HB.out)⟩
def laws_toNodeS.l0:Nat→List (S72)→List (S62)→Int→Option ((List (S62)))
 | 0,_,_,_=>none
 | k+1,x0,x3,x4=>if x4<(x0.length:Int) then (if 0≤x4 then ((laws_toNode.f ((rd_T72 x0 x4).f0) ((rd_T72 x0 x4).f1) ((rd_T72 x0 x4).f2)).bind fun bt362=>(if x4<(x3.length:Int) then (laws_toNodeS.l0 k x0 (x3.set (x4:Int).toNat (⟨bt362.1,bt362.2.1,bt362.2.2⟩:S62)) (wrap64 (x4+1))) else (none))) else (none)) else (some x3)
def laws_toNodeS.f (k:Nat) (l0:List (S72)):Option ((List (S62))):=if 0≤(l0.length:Int) then (if ((l0.length:Int):Int).toNat≤11728124029610 then (laws_toNodeS.l0 k l0 (List.replicate ((l0.length:Int):Int).toNat z62) 0) else (none)) else (none)
set_option maxHeartbeats 8000000 in
set_option maxRecDepth 100000 in
theorem laws_toNodeS.calls (k:Nat) (A0:Option Addr) (c0:Nat) (l0:List (S72)) (r:List (S62)) (w:World) (hr0:Kd.C k72 w A0 l0.length l0) (hc0:l0.length≤c0) (h:laws_toNodeS.f k l0=some r) :
  Calls Try.prog 26 #[.slice A0 l0.length c0] w fun e w'=>∃ v0_:Value,e=.returned (v0_)∧Kd.R k62 62 w' w.heap.size (fun _=>True) v0_ r∧Below w.heap.size w w':=by
 have hu72:=Try.underlying72
 have hu62:=Try.underlying62
 have HR0:=Zz.mk hr0
 have HC0:=Zz.mk hc0
 clear hr0 hc0
 have HB:=Zz.mk (Below.refl w.heap.size w)
 have H:(if 0≤(l0.length:Int) then (if ((l0.length:Int):Int).toNat≤11728124029610 then (laws_toNodeS.l0 k l0 (List.replicate ((l0.length:Int):Int).toNat z62) 0) else (none)) else (none))=some r:=h
 clear h
 by_cases c2:0≤(l0.length:Int)
 ·rw [if_pos c2] at H
  have c2b0:=eq_true c2
  have c2b1:decide (0≤(l0.length:Int))=true:=decide_eq_true c2
  clear c2
  by_cases c3:((l0.length:Int):Int).toNat≤11728124029610
  ·rw [if_pos c3] at H
   have c3b0:=eq_true c3
   have c3b1:decide (((l0.length:Int):Int).toNat≤11728124029610)=true:=decide_eq_true c3
   clear c3
   obtain ⟨y358,hy358⟩:∃ y_:List (S62),y_=(List.replicate ((l0.length:Int):Int).toNat z62):=⟨_,rfl⟩
   replace H:(laws_toNodeS.l0 k l0 y358 0)=some r:=by first|(rw [hy358];with_reducible exact H)|(have H2_:=(Option.bind_some _ _).symm.trans H;rw [hy358];with_reducible exact H2_)|(have H2_:=(Option.bind_some _ _).symm.trans H;with_reducible exact H2_)|with_reducible exact H|(rw [hy358];exact H)|exact H
   have Ny358:=Zz.mk hy358
   clear hy358
   have H':=Zz.mk H
   clear H
   go_enter Try.func26,Try.ntmps26
   go_wp2_with (first|((with_reducible refine gate_dst (N:=7) rfl ?_);refine Kd.R_make k62 _ 62 rfl (N:=7) rfl 22 _ _ rfl (l0.length:Int) rfl rfl Try.underlying22 (.agg #[(.int .i64 0),(.int .i64 0),(.bool false)]) 24 info62 rfl (by decide) (by omega) z62 (ok:=fun _=>True) (okp:=fun _=>True) (k62_mkM _ _ _ z62 ) (fun _ hk=>hk) trivial (of_decide_eq_true (by first|(with_reducible assumption)|assumption)) (Nat.le_trans (Nat.mul_le_mul_right _ (of_decide_eq_true (by first|(with_reducible assumption)|assumption):(l0.length:Int).toNat≤11728124029610)) (by omega)) (Below.refl _ _) (Nat.le_refl _) ?_;intro v359 w4 ho5 hb hg_ hnew_;clear hg_ hnew_;(first|rw [← Ny358.out] at ho5|(simp only [Int.reduceToNat] at ho5;rw [← Ny358.out] at ho5));have n0_:=Zz.mk (Kd.R_lower ho5 (qZ (by repeat (first|(with_reducible first|exact HB.out|apply qA|apply qN|apply q1_)|exact HB.out))));have n1_:=Zz.mk (qP (by repeat (first|(with_reducible first|exact HB.out|apply qA|apply qN|apply q1_)|exact HB.out)) hb);clear HB;have HO360:=n0_;have HB:=n1_;clear n0_ n1_;clear hb ho5))
   go_loopg [4] k (fun kq v4 w'=>∃ (x3_1:List (S62)) (x4_1:Int),v4=.int .i64 x4_1∧Zz (laws_toNodeS.l0 kq l0 x3_1 x4_1=some r)∧Zz (kq≤k)∧Zz (Kd.R k62 62 w' w.heap.size (fun _=>True) v359 x3_1)∧Zz (Below w.heap.size w w'))
   case atStart=>exact ⟨(y358),(0),(by first|rfl|(simp;done)|(simp [*];done)),H',⟨Nat.le_refl _⟩,⟨by (with_reducible repeat first|apply Kd.R_alloc|apply Kd.R_drewN|apply Kd.R_drew);exact HO360.out⟩,⟨by repeat (first|(with_reducible first|exact HB.out|apply qA|apply qN|apply q1_)|exact HB.out)⟩⟩
   case round =>
    clear H'
    try clear c2
    try clear c2b0
    try clear c2b1
    try clear p2
    try clear c3
    try clear c3b0
    try clear c3b1
    obtain ⟨x3_1,x4_1,rfl,HA,HK1,HO_3,HB⟩:=hrel
    cases gk with
    | zero=>exact absurd HA.out (by simp [laws_toNodeS.l0])
    | succ k1 =>
     have H:=HA.out
     clear HA
     simp only [laws_toNodeS.l0] at H
     by_cases c6:x4_1<(l0.length:Int)
     ·rw [if_pos c6] at H
      have c6b0:decide (x4_1<(l0.length:Int))=true:=decide_eq_true c6
      clear c6
      by_cases c7:0≤x4_1
      ·rw [if_pos c7] at H
       have c7b0:decide (0≤x4_1)=true:=decide_eq_true c7
       clear c7
       replace H:=Option.bind_eq_some_iff.mp H
       obtain ⟨⟨t362,t363,t364⟩,A80,H⟩:=H
       replace H:(if x4_1<(x3_1.length:Int) then (laws_toNodeS.l0 k1 l0 (x3_1.set (x4_1:Int).toNat (⟨t362,t363,t364⟩:S62)) (wrap64 (x4_1+1))) else (none))=some r:=H
       have A8:=Zz.mk A80
       clear A80
       by_cases c9:x4_1<(x3_1.length:Int)
       ·rw [if_pos c9] at H
        have c9b0:decide (x4_1<(x3_1.length:Int))=true:=decide_eq_true c9
        clear c9
        obtain ⟨y365,hy365⟩:∃ y_:List (S62),y_=(x3_1.set (x4_1:Int).toNat (⟨t362,t363,t364⟩:S62)):=⟨_,rfl⟩
        replace H:(laws_toNodeS.l0 k1 l0 y365 (wrap64 (x4_1+1)))=some r:=by first|(rw [hy365];with_reducible exact H)|(have H2_:=(Option.bind_some _ _).symm.trans H;rw [hy365];with_reducible exact H2_)|(have H2_:=(Option.bind_some _ _).symm.trans H;with_reducible exact H2_)|with_reducible exact H|(rw [hy365];exact H)|exact H
        have Ny365:=Zz.mk hy365
        clear hy365
        have H':=Zz.mk H
        clear H
        have p361:0≤(x4_1:Int):=of_decide_eq_true (by first|(with_reducible assumption)|assumption)
        have q361:x4_1<(l0.length:Int):=of_decide_eq_true (by first|(with_reducible assumption)|assumption)
        obtain ⟨ad361,e361,hx361_0,hx361_1,hx361_2⟩:=at_T72 HR0.out x4_1 p361 q361
        cases e361
        replace hx361_0:=(HB.out.cell (World.block_lt_of_cell? w _ hx361_0)).trans hx361_0
        replace hx361_1:=(HB.out.cell (World.block_lt_of_cell? w _ hx361_1)).trans hx361_1
        replace hx361_2:=(HB.out.cell (World.block_lt_of_cell? w _ hx361_2)).trans hx361_2
        replace p361:=eq_true p361
        replace q361:=eq_true q361
        go_wp2_with (first|((with_reducible refine gate_callee (f:=46) rfl ?_);refine goesL_ (some 20) rfl rfl Try.func46 (by kernel_rfl) rfl #[.agg #[.int .i64 ((rd_T72 l0 x4_1).f0),.int .i64 ((rd_T72 l0 x4_1).f1),.bool ((rd_T72 l0 x4_1).f2)]] rfl (by (try simp only [List.map_toArray,List.map_cons,List.map_nil]);first|done|rfl|(simp only [List.length_drop,List.length_take];rfl)) ?_;(with_reducible refine (laws_toNode.calls ((rd_T72 l0 x4_1).f0) ((rd_T72 l0 x4_1).f1) ((rd_T72 l0 x4_1).f2) t362 t363 t364 _ A8.out).mono ?_);rintro e w11 ⟨rfl,hb⟩;refine ⟨_,rfl,?_⟩;have n0_:=Zz.mk (Kd.R_below (by (with_reducible repeat first|apply Kd.R_alloc|apply Kd.R_drewN|apply Kd.R_drew);exact HO_3.out) hb);have n1_:=Zz.mk (qP (by repeat (first|(with_reducible first|exact HB.out|apply qA|apply qN|apply q1_)|exact HB.out)) hb);clear HO_3;clear HB;have HO_3:=n0_;have HB:=n1_;clear n0_ n1_;(try clear hb);(try clear hb2);(try clear hk);(try clear hi);have p10:0≤(x4_1:Int):=of_decide_eq_true (by first|(with_reducible assumption)|assumption);have q10:(x4_1:Int)<((x3_1.length:Int):Int):=of_decide_eq_true (by first|(with_reducible assumption)|assumption);obtain ⟨go10,co10,eo10,gb10,gl10,cl10,HG10⟩:=Kd.R_form HO_3.out (by omega);(first|cases eo10|(injection eo10 with ea_ en_ ec_;(first|subst ea_|(injection ea_ with ea_;subst ea_));subst ec_;clear en_));have GB10:=Zz.mk gb10;have GG10:=Zz.mk HG10;clear gb10 gl10 HG10;obtain ⟨ce10,hcl10,hM10,hcc10,hfr10⟩:=Kd.R_elem HO_3.out z62 (x4_1:Int) p10 q10;obtain rfl:=k62_openM hM10;have hx10_0:w11.cell? ⟨go10,(x4_1:Int).toNat * 3,none⟩=some (.int .i64 ((rT x3_1 x4_1).f0)):=hcc10 0 _ rfl;have hx10_1:w11.cell? ⟨go10,(x4_1:Int).toNat * 3+1,none⟩=some (.int .i64 ((rT x3_1 x4_1).f1)):=hcc10 1 _ rfl;have hx10_2:w11.cell? ⟨go10,(x4_1:Int).toNat * 3+2,none⟩=some (.bool ((rT x3_1 x4_1).f2)):=hcc10 2 _ rfl;have hf10_0:w11.frozen? ⟨go10,(x4_1:Int).toNat * 3,none⟩=false:=hfr10 0;have hf10_1:w11.frozen? ⟨go10,(x4_1:Int).toNat * 3+1,none⟩=false:=hfr10 1;have hf10_2:w11.frozen? ⟨go10,(x4_1:Int).toNat * 3+2,none⟩=false:=hfr10 2;clear hcl10 hcc10 hfr10 hM10;replace p10:=eq_true p10;replace q10:=eq_true q10;have HX12:=Zz.mk (show Kd.R k62 62 w11 w.heap.size (fun _=>True) (.slice (some ⟨go10,0,none⟩) x3_1.length co10) x3_1 from (by (with_reducible repeat first|apply Kd.R_alloc|apply Kd.R_drewN|apply Kd.R_drew);exact HO_3.out));obtain ⟨ce12,hcl12,hM12,hcc12,hfr12⟩:=Kd.R_elem HX12.out z62 (x4_1:Int) (of_decide_eq_true (by first|(with_reducible assumption)|assumption)) (by have h_:(x4_1:Int)<((x3_1.length:Int):Int):=of_decide_eq_true (by first|(with_reducible assumption)|assumption);first|exact h_|(have e_:=(Kd.R_reads' HO_3.out).1;omega)|simpa using h_);obtain rfl:=k62_openM hM12;have HP12:=Kd.R_seg HX12.out (x4_1:Int) (of_decide_eq_true (by first|(with_reducible assumption)|assumption)) (by have h_:(x4_1:Int)<((x3_1.length:Int):Int):=of_decide_eq_true (by first|(with_reducible assumption)|assumption);first|exact h_|(have e_:=(Kd.R_reads' HO_3.out).1;omega)|simpa using h_) (seg:=[.int .i64 t362,.int .i64 t363,.bool t364]) (j:=0) hcl12 hcc12 (show 3≤3 from by decide) (x':=(⟨t362,t363,t364⟩:S62)) (k62_mkM _ _ _ (⟨t362,t363,t364⟩:S62) ) (fun _ hk=>hk);have hx12_0:=hcc12 0 _ rfl;(try simp only [show (k62).sz=3 from rfl,Nat.mul_one,Nat.add_zero] at hx12_0);have hf12_0:=hfr12 0;(try simp only [show (k62).sz=3 from rfl,Nat.mul_one,Nat.add_zero] at hf12_0);have hx12_1:=hcc12 1 _ rfl;(try simp only [show (k62).sz=3 from rfl,Nat.mul_one,Nat.add_zero] at hx12_1);have hf12_1:=hfr12 1;(try simp only [show (k62).sz=3 from rfl,Nat.mul_one,Nat.add_zero] at hf12_1);have hx12_2:=hcc12 2 _ rfl;(try simp only [show (k62).sz=3 from rfl,Nat.mul_one,Nat.add_zero] at hx12_2);have hf12_2:=hfr12 2;(try simp only [show (k62).sz=3 from rfl,Nat.mul_one,Nat.add_zero] at hf12_2);clear hcl12 hcc12 hfr12 hM12)|((with_reducible refine gate_store (t:=62) (p:=21) rfl ?_);refine store_event (t:=62) (p:=21) (v:=?vo_w13) (w1:=(((w11.setCell ⟨go10,(x4_1:Int).toNat * 3,none⟩ (.int .i64 t362)).setCell ⟨go10,(x4_1:Int).toNat * 3+1,none⟩ (.int .i64 t363)).setCell ⟨go10,(x4_1:Int).toNat * 3+2,none⟩ (.bool t364))) ?hg ?ho ?hn ?hr ?_;(case ho=>rfl);(case hg=>rfl);(case hn=>rfl);(case hr=>first|(go_simp;done)|(go_simp;rfl));intro w13 hw;have hg:w11.grownBy w13 (some go10):=(by rw [hw];exact HP12.2);have hp_:Kd.R k62 62 w13 w.heap.size (fun _=>True) (.slice (some ⟨go10,0,none⟩) x3_1.length co10) y365:=(by rw [hw,Ny365.out];exact HP12.1);clear HP12;have n0_:=Zz.mk (hp_);have n1_:=Zz.mk ((by rw [hw];exact qS (qS (qS (HB.out) GB10.out) GB10.out) GB10.out:Below w.heap.size w w13));clear HO_3;clear HB;have HO_3:=n0_;have HB:=n1_;clear n0_ n1_;clear hg hw hp_))
        go_roundg k1
        case measure=>have:=HK1.out;omega
        case rel=>exact ⟨(y365),(wrap64 (x4_1+1)),(by first|rfl|(simp;done)|(simp [*];done)),H',⟨by have:=HK1.out;omega⟩,⟨by (with_reducible repeat first|apply Kd.R_alloc|apply Kd.R_drewN|apply Kd.R_drew);exact HO_3.out⟩,⟨by repeat (first|(with_reducible first|exact HB.out|apply qA|apply qN|apply q1_)|exact HB.out)⟩⟩
       ·rw [if_neg c9] at H
        exact absurd H (by simp)
      ·rw [if_neg c7] at H
       exact absurd H (by simp)
     ·rw [if_neg c6] at H
      have c6b0:decide (x4_1<(l0.length:Int))=false:=decide_eq_false c6
      clear c6
      obtain rfl:=Option.some.inj H
      go_wp2
      go_ret
      exact ⟨_,by first|rfl|(simp [errW_none,errW_some] <;> rfl)|(simp [*,errW_none,errW_some] <;> rfl),by (with_reducible repeat first|apply Kd.R_alloc|apply Kd.R_drewN|apply Kd.R_drew);exact HO_3.out,by repeat (first|(with_reducible first|exact HB.out|apply qA|apply qN|apply q1_)|exact HB.out)⟩
  ·rw [if_neg c3] at H
   exact absurd H (by simp)
 ·rw [if_neg c2] at H
  exact absurd H (by simp)
def laws_toTrie.f (k:Nat) (l0_0:List (S72)):Option ((List (S62))):=(laws_toNodeS.f k l0_0).bind fun t369=>(some t369)
set_option maxHeartbeats 8000000 in
set_option maxRecDepth 100000 in
theorem laws_toTrie.calls (k:Nat) (A0_0:Option Addr) (c0_0:Nat) (l0_0:List (S72)) (r:List (S62)) (w:World) (hr0_0:Kd.C k72 w A0_0 l0_0.length l0_0) (hc0_0:l0_0.length≤c0_0) (h:laws_toTrie.f k l0_0=some r) :
  Calls Try.prog 12 #[.agg #[.slice A0_0 l0_0.length c0_0]] w fun e w'=>∃ v0_:Value,e=.returned (.agg #[v0_])∧Kd.R k62 62 w' w.heap.size (fun _=>True) v0_ r∧Below w.heap.size w w':=by
 have hu32:=Try.underlying32
 have hu24:=Try.underlying24
 have HR0_0:=Zz.mk hr0_0
 have HC0_0:=Zz.mk hc0_0
 clear hr0_0 hc0_0
 have HB:=Zz.mk (Below.refl w.heap.size w)
 have H:((laws_toNodeS.f k l0_0).bind fun t369=>(some t369))=some r:=h
 clear h
 replace H:=Option.bind_eq_some_iff.mp H
 obtain ⟨t369,A20,H⟩:=H
 replace H:(some t369)=some r:=H
 have A2:=Zz.mk A20
 clear A20
 obtain rfl:=Option.some.inj H
 go_enter Try.func12,Try.ntmps12
 go_wp2_with (first|((with_reducible refine gate_dst (N:=1) rfl ?_);refine box_event ?hg (N:=1) ?hd (cs:=#[.slice A0_0 l0_0.length c0_0]) (t:=32) ?hr ?_;(case hd=>rfl);(case hg=>rfl);(case hr=>first|(go_simp;done)|(go_simp;rfl));intro gb366 hg w3 hbox hb;have n0_:=Zz.mk (qP (by repeat (first|(with_reducible first|exact HB.out|apply qA|apply qN|apply q1_)|exact HB.out)) hb);have n1_:=Zz.mk (hbox);have n2_:=Zz.mk ((by rw [hg];exact (qZ (by repeat (first|(with_reducible first|exact HB.out|apply qA|apply qN|apply q1_)|exact HB.out))):w.heap.size≤gb366));have n3_:=Zz.mk ((by rw [hg];exact (qZ (by repeat (first|(with_reducible first|exact HB.out|apply qA|apply qN|apply q1_)|exact HB.out))):w.heap.size≤gb366));clear HB;have HB:=n0_;have BK366:=n1_;have GW366:=n2_;have GE366:=n3_;clear n0_ n1_ n2_ n3_;clear hb hbox hg)|((with_reducible refine gate_dst (N:=2) rfl ?_);refine box_event ?hg (N:=2) ?hd (cs:=#[.slice none 0 0]) (t:=24) ?hr ?_;(case hd=>rfl);(case hg=>rfl);(case hr=>first|(go_simp;done)|(go_simp;rfl));intro gb367 hg w4 hbox hb;have n0_:=Zz.mk (bB (g:=gb366) (o:=.cells #[.slice A0_0 l0_0.length c0_0] 32 (0,0)) (by (with_reducible repeat first|apply bN|apply bD|apply bA);exact BK366.out) hb);have n1_:=Zz.mk (qP (by repeat (first|(with_reducible first|exact HB.out|apply qA|apply qN|apply q1_|refine qS ?_ GE366.out)|exact HB.out)) hb);have n2_:=Zz.mk (hbox);have n3_:=Zz.mk ((by rw [hg];exact (qZ (by repeat (first|(with_reducible first|exact HB.out|apply qA|apply qN|apply q1_|refine qS ?_ GE366.out)|exact HB.out))):w.heap.size≤gb367));have n4_:=Zz.mk ((by rw [hg];exact (qZ (by repeat (first|(with_reducible first|exact HB.out|apply qA|apply qN|apply q1_|refine qS ?_ GE366.out)|exact HB.out))):w.heap.size≤gb367));have n5_:=Zz.mk ((by rw [hg];exact Nat.ne_of_lt (blk_lt (g:=gb366) (o:=.cells #[.slice A0_0 l0_0.length c0_0] 32 (0,0)) (by (with_reducible repeat first|apply bN|apply bD|apply bA);exact BK366.out)):gb366 ≠ gb367));have n6_:=Zz.mk ((by rw [hg];exact Nat.ne_of_gt (blk_lt (g:=gb366) (o:=.cells #[.slice A0_0 l0_0.length c0_0] 32 (0,0)) (by (with_reducible repeat first|apply bN|apply bD|apply bA);exact BK366.out)):gb367 ≠ gb366));clear BK366;clear HB;have BK366:=n0_;have HB:=n1_;have BK367:=n2_;have GW367:=n3_;have GE367:=n4_;have NB366_367:=n5_;have NB367_366:=n6_;clear n0_ n1_ n2_ n3_ n4_ n5_ n6_;clear hb hbox hg)|((with_reducible refine gate_dst (N:=3) rfl ?_);refine box_event ?hg (N:=3) ?hd (cs:=#[.slice none 0 0]) (t:=24) ?hr ?_;(case hd=>rfl);(case hg=>rfl);(case hr=>first|(go_simp;done)|(go_simp;rfl));intro gb368 hg w5 hbox hb;have n0_:=Zz.mk (bB (g:=gb366) (o:=.cells #[.slice A0_0 l0_0.length c0_0] 32 (0,0)) (by (with_reducible repeat first|apply bN|apply bD|apply bA);exact BK366.out) hb);have n1_:=Zz.mk (bB (g:=gb367) (o:=.cells #[.slice none 0 0] 24 (0,0)) (by (with_reducible repeat first|apply bN|apply bD|apply bA);exact BK367.out) hb);have n2_:=Zz.mk (qP (by repeat (first|(with_reducible first|exact HB.out|apply qA|apply qN|apply q1_|refine qS ?_ GE366.out|refine qS ?_ GE367.out)|exact HB.out)) hb);have n3_:=Zz.mk (hbox);have n4_:=Zz.mk ((by rw [hg];exact (qZ (by repeat (first|(with_reducible first|exact HB.out|apply qA|apply qN|apply q1_|refine qS ?_ GE366.out|refine qS ?_ GE367.out)|exact HB.out))):w.heap.size≤gb368));have n5_:=Zz.mk ((by rw [hg];exact (qZ (by repeat (first|(with_reducible first|exact HB.out|apply qA|apply qN|apply q1_|refine qS ?_ GE366.out|refine qS ?_ GE367.out)|exact HB.out))):w.heap.size≤gb368));have n6_:=Zz.mk ((by rw [hg];exact Nat.ne_of_lt (blk_lt (g:=gb366) (o:=.cells #[.slice A0_0 l0_0.length c0_0] 32 (0,0)) (by (with_reducible repeat first|apply bN|apply bD|apply bA);exact BK366.out)):gb366 ≠ gb368));have n7_:=Zz.mk ((by rw [hg];exact Nat.ne_of_gt (blk_lt (g:=gb366) (o:=.cells #[.slice A0_0 l0_0.length c0_0] 32 (0,0)) (by (with_reducible repeat first|apply bN|apply bD|apply bA);exact BK366.out)):gb368 ≠ gb366));have n8_:=Zz.mk ((by rw [hg];exact Nat.ne_of_lt (blk_lt (g:=gb367) (o:=.cells #[.slice none 0 0] 24 (0,0)) (by (with_reducible repeat first|apply bN|apply bD|apply bA);exact BK367.out)):gb367 ≠ gb368));have n9_:=Zz.mk ((by rw [hg];exact Nat.ne_of_gt (blk_lt (g:=gb367) (o:=.cells #[.slice none 0 0] 24 (0,0)) (by (with_reducible repeat first|apply bN|apply bD|apply bA);exact BK367.out)):gb368 ≠ gb367));clear BK366;clear BK367;clear HB;have BK366:=n0_;have BK367:=n1_;have HB:=n2_;have BK368:=n3_;have GW368:=n4_;have GE368:=n5_;have NB366_368:=n6_;have NB368_366:=n7_;have NB367_368:=n8_;have NB368_367:=n9_;clear n0_ n1_ n2_ n3_ n4_ n5_ n6_ n7_ n8_ n9_;clear hb hbox hg;have hnb6:=NB366_367.out;have hnc6:=NB367_366.out;have hnb7:=NB366_368.out;have hnc7:=NB368_366.out;have hcz8_0:w5.cell? ⟨gb366,0,none⟩=some (.slice A0_0 l0_0.length c0_0):=(bC BK366.out 0).trans rfl;have hfz8_0:=bF BK366.out 0)|((with_reducible refine gate_callee (f:=26) rfl ?_);refine goesL_ (some 6) rfl rfl Try.func26 (by kernel_rfl) rfl #[.slice A0_0 l0_0.length c0_0] rfl (by (try simp only [List.map_toArray,List.map_cons,List.map_nil]);first|done|rfl|(simp only [List.length_drop,List.length_take];rfl)) ?_;(with_reducible refine (laws_toNodeS.calls k _ _ l0_0 t369 _ ?side1 ?side2 A2.out).mono ?_);(case side1=>repeat (first|exact (Kd.C_below HR0_0.out HB.out)|(with_reducible refine Kd.C_alloc ?_ _)|(with_reducible refine Kd.C_drewN ?_ _)|(with_reducible refine Kd.C_drew ?_)));(case side2=>exact HC0_0.out);rintro e w9 ⟨v370,rfl,ho0,hb⟩;refine ⟨_,rfl,?_⟩;have n0_:=Zz.mk (Kd.R_lower ho0 (qZ (by repeat (first|(with_reducible first|exact HB.out|apply qA|apply qN|apply q1_|refine qS ?_ GE366.out|refine qS ?_ GE367.out|refine qS ?_ GE368.out)|exact HB.out))));have n1_:=Zz.mk (bB (g:=gb366) (o:=.cells #[.slice A0_0 l0_0.length c0_0] 32 (0,0)) (by (with_reducible repeat first|apply bN|apply bD|apply bA);exact BK366.out) hb);have n2_:=Zz.mk (bB (g:=gb367) (o:=.cells #[.slice none 0 0] 24 (0,0)) (by (with_reducible repeat first|apply bN|apply bD|apply bA);exact BK367.out) hb);have n3_:=Zz.mk (bB (g:=gb368) (o:=.cells #[.slice none 0 0] 24 (0,0)) (by (with_reducible repeat first|apply bN|apply bD|apply bA);exact BK368.out) hb);have n4_:=Zz.mk (qP (by repeat (first|(with_reducible first|exact HB.out|apply qA|apply qN|apply q1_|refine qS ?_ GE366.out|refine qS ?_ GE367.out|refine qS ?_ GE368.out)|exact HB.out)) hb);clear BK366;clear BK367;clear BK368;clear HB;have HO371:=n0_;have BK366:=n1_;have BK367:=n2_;have BK368:=n3_;have HB:=n4_;clear n0_ n1_ n2_ n3_ n4_;(try clear hb);(try clear hb2);(try clear hk);(try clear hi);(try clear ho0);obtain ⟨Ao10,co10,eo10⟩:=Kd.R_slice HO371.out;subst eo10;have hnb11:=NB368_367.out;have hnc11:=NB367_368.out;have hcz12_0:w9.cell? ⟨gb368,0,none⟩=some (.slice none 0 0):=(bC BK368.out 0).trans rfl;have hfz12_0:=bF BK368.out 0;have hcz13_0:w9.cell? ⟨gb367,0,none⟩=some (.slice none 0 0):=(bC BK367.out 0).trans rfl;have hfz13_0:=bF BK367.out 0))
 refine bodyPost_ret (results_cell_row rfl _ _ gb367 24 #[.slice Ao10 t369.length co10] (0,0) _ rfl (by (with_reducible repeat first|apply bN|apply bD|apply bA);refine blk_put (cs:=#[.slice none 0 0]) ?_ 0 _ rfl;(with_reducible repeat first|apply bN|apply bD|apply bA);refine blk_far ?_ NB367_368.out _;(with_reducible repeat first|apply bN|apply bD|apply bA);exact BK367.out) Try.underlying24 rfl (by kernel_rfl)) rfl ?_
 exact ⟨_,by first|rfl|(simp [errW_none,errW_some] <;> rfl)|(simp [*,errW_none,errW_some] <;> rfl),by (with_reducible repeat first|apply Kd.R_alloc|apply Kd.R_drewN|apply Kd.R_drew);exact Kd.R_mono (R_same_ (Kd.R_far (p:=⟨gb367,0,none⟩) (Kd.R_far (p:=⟨gb368,0,none⟩) (Kd.R_types (Kd.R_types HO371.out BK368.out (by decide)) BK367.out (by decide)) (fun _ hk=>hk.1.2) (.slice Ao10 t369.length co10)) (fun _ hk=>hk.2) (.slice Ao10 t369.length co10)) rfl) (fun _ hk=>trivial),by repeat (first|(with_reducible first|exact HB.out|apply qA|apply qN|apply q1_|refine qS ?_ GE366.out|refine qS ?_ GE367.out|refine qS ?_ GE368.out)|exact HB.out)⟩
def impl_Trie_kids.l0:Nat→Int→List Int→List (S62)→Int→Int→Option (List Int)
 | 0,_,_,_,_,_=>none
 | k+1,x1,x5,x10,x11,x12=>if x12<x11 then (if 0≤x12 then (if x12<(x10.length:Int) then (if ((rT x10 x12).f1)=x1 then (if x5.length<17592186044416 then (impl_Trie_kids.l0 k x1 (x5 ++ [x12]) x10 x11 (wrap64 (x12+1))) else (none)) else (impl_Trie_kids.l0 k x1 x5 x10 x11 (wrap64 (x12+1)))) else (none)) else (none)) else (some x5)
def impl_Trie_kids.f (k:Nat) (l0_0:List (S62)) (a1:Int):Option (List Int):=impl_Trie_kids.l0 k a1 (([]:List Int)) l0_0 (l0_0.length:Int) 0
set_option maxHeartbeats 8000000 in
set_option maxRecDepth 100000 in
theorem impl_Trie_kids.calls (k:Nat) (A0_0:Option Addr) (c0_0:Nat) (l0_0:List (S62)) (a1:Int) (r:List Int) (w:World) (hr0_0:Kd.C k62 w A0_0 l0_0.length l0_0) (hc0_0:l0_0.length≤c0_0) (h:impl_Trie_kids.f k l0_0 a1=some r) :
  Calls Try.prog 38 #[.agg #[.slice A0_0 l0_0.length c0_0],.int .i64 a1] w fun e w'=>∃ v0_:Value,e=.returned (v0_)∧Kd.R (Kd.int .i64) 3 w' w.heap.size (fun _=>True) v0_ r∧Below w.heap.size w w':=by
 have hu24:=Try.underlying24
 have hu62:=Try.underlying62
 have HR0_0:=Zz.mk hr0_0
 have HC0_0:=Zz.mk hc0_0
 clear hr0_0 hc0_0
 have HB:=Zz.mk (Below.refl w.heap.size w)
 have H:(impl_Trie_kids.l0 k a1 (([]:List Int)) l0_0 (l0_0.length:Int) 0)=some r:=h
 clear h
 obtain ⟨y373,hy373⟩:∃ y_:List Int,y_=(([]:List Int)):=⟨_,rfl⟩
 replace H:(impl_Trie_kids.l0 k a1 y373 l0_0 (l0_0.length:Int) 0)=some r:=by first|(rw [hy373];with_reducible exact H)|(have H2_:=(Option.bind_some _ _).symm.trans H;rw [hy373];with_reducible exact H2_)|(have H2_:=(Option.bind_some _ _).symm.trans H;with_reducible exact H2_)|with_reducible exact H|(rw [hy373];exact H)|exact H
 have Ny373:=Zz.mk hy373
 clear hy373
 have H':=Zz.mk H
 clear H
 go_enter Try.func38,Try.ntmps38
 go_wp2_with (first|((with_reducible refine gate_dst (N:=2) rfl ?_);refine box_event ?hg (N:=2) ?hd (cs:=#[.slice A0_0 l0_0.length c0_0]) (t:=24) ?hr ?_;(case hd=>rfl);(case hg=>rfl);(case hr=>first|(go_simp;done)|(go_simp;rfl));intro gb372 hg w3 hbox hb;have n0_:=Zz.mk (qP (by repeat (first|(with_reducible first|exact HB.out|apply qA|apply qN|apply q1_)|exact HB.out)) hb);have n1_:=Zz.mk (hbox);have n2_:=Zz.mk ((by rw [hg];exact (qZ (by repeat (first|(with_reducible first|exact HB.out|apply qA|apply qN|apply q1_)|exact HB.out))):w.heap.size≤gb372));have n3_:=Zz.mk ((by rw [hg];exact (qZ (by repeat (first|(with_reducible first|exact HB.out|apply qA|apply qN|apply q1_)|exact HB.out))):w.heap.size≤gb372));clear HB;have HB:=n0_;have BK372:=n1_;have GW372:=n2_;have GE372:=n3_;clear n0_ n1_ n2_ n3_;clear hb hbox hg)|((with_reducible refine gate_dst (N:=8) rfl ?_);refine Kd.R_lit (Kd.int .i64) _ 3 ?hg (N:=8) ?hd (xs:=([]:List Int)) (inner:=[]) (ok:=fun _=>True) (okp:=fun _=>True) ?hr ?hp (fun _ hk=>hk) trivial (Below.refl _ _) (Nat.le_refl _) (by simp) ?_;(case hd=>rfl);(case hg=>rfl);(case hr=>first|(go_simp;done)|(go_simp;rfl));(case hp=>exact (Reps.none _ _));intro v374 w4 ho5 hb hg_ hnew_;clear hg_ hnew_;(first|rw [← Ny373.out] at ho5|(simp only [Int.reduceToNat] at ho5;rw [← Ny373.out] at ho5));have n0_:=Zz.mk (Kd.R_lower ho5 (qZ (by repeat (first|(with_reducible first|exact HB.out|apply qA|apply qN|apply q1_|refine qS ?_ GE372.out)|exact HB.out))));have n1_:=Zz.mk (bB (g:=gb372) (o:=.cells #[.slice A0_0 l0_0.length c0_0] 24 (0,0)) (by (with_reducible repeat first|apply bN|apply bD|apply bA);exact BK372.out) hb);have n2_:=Zz.mk (qP (by repeat (first|(with_reducible first|exact HB.out|apply qA|apply qN|apply q1_|refine qS ?_ GE372.out)|exact HB.out)) hb);clear BK372;clear HB;have HO375:=n0_;have BK372:=n1_;have HB:=n2_;clear n0_ n1_ n2_;clear hb ho5;have hcz6_0:w4.cell? ⟨gb372,0,none⟩=some (.slice A0_0 l0_0.length c0_0):=(bC BK372.out 0).trans rfl;have hfz6_0:=bF BK372.out 0))
 go_loopg [5,12] k (fun kq v5 v12 w'=>∃ (x5_1:List Int) (x12_1:Int),v12=.int .i64 x12_1∧Zz (impl_Trie_kids.l0 kq a1 x5_1 l0_0 (l0_0.length:Int) x12_1=some r)∧Zz (kq≤k)∧Zz (Kd.R (Kd.int .i64) 3 w' w.heap.size (fun _=>True) v5 x5_1)∧Zz (w'.heap[gb372]?=some (.cells #[(.slice A0_0 l0_0.length c0_0)] 24 (0,0)))∧Zz (Below w.heap.size w w'))
 case atStart=>exact ⟨(y373),(0),(by first|rfl|(simp;done)|(simp [*];done)),H',⟨Nat.le_refl _⟩,⟨by (with_reducible repeat first|apply Kd.R_alloc|apply Kd.R_drewN|apply Kd.R_drew);exact HO375.out⟩,⟨by (with_reducible repeat first|apply bN|apply bD|apply bA);exact BK372.out⟩,⟨by repeat (first|(with_reducible first|exact HB.out|apply qA|apply qN|apply q1_|refine qS ?_ GE372.out)|exact HB.out)⟩⟩
 case round =>
  clear H'
  try clear p2
  try clear c3
  try clear hcz6_0
  try clear hfz6_0
  obtain ⟨x5_1,x12_1,rfl,HA,HK1,HO_5,BK372,HB⟩:=hrel
  cases gk with
  | zero=>exact absurd HA.out (by simp [impl_Trie_kids.l0])
  | succ k1 =>
   have H:=HA.out
   clear HA
   simp only [impl_Trie_kids.l0] at H
   by_cases c7:x12_1<(l0_0.length:Int)
   ·rw [if_pos c7] at H
    have c7b0:decide (x12_1<(l0_0.length:Int))=true:=decide_eq_true c7
    clear c7
    by_cases c8:0≤x12_1
    ·rw [if_pos c8] at H
     have c8b0:decide (0≤x12_1)=true:=decide_eq_true c8
     clear c8
     by_cases c9:x12_1<(l0_0.length:Int)
     ·rw [if_pos c9] at H
      have c9b0:decide (x12_1<(l0_0.length:Int))=true:=decide_eq_true c9
      clear c9
      by_cases c10:((rT l0_0 x12_1).f1)=a1
      ·rw [if_pos c10] at H
       have c10b0:(((rT l0_0 x12_1).f1) == a1)=true:=beq_iff_eq.mpr c10
       have c10b1:(((rT l0_0 x12_1).f1) != a1)=false:=bne_eq_false_iff_eq.mpr c10
       clear c10
       by_cases c11:x5_1.length<17592186044416
       ·rw [if_pos c11] at H
        have LMc11:=Zz.mk c11
        clear c11
        obtain ⟨y378,hy378⟩:∃ y_:List Int,y_=(x5_1 ++ [x12_1]):=⟨_,rfl⟩
        replace H:(impl_Trie_kids.l0 k1 a1 y378 l0_0 (l0_0.length:Int) (wrap64 (x12_1+1)))=some r:=by first|(rw [hy378];with_reducible exact H)|(have H2_:=(Option.bind_some _ _).symm.trans H;rw [hy378];with_reducible exact H2_)|(have H2_:=(Option.bind_some _ _).symm.trans H;with_reducible exact H2_)|with_reducible exact H|(rw [hy378];exact H)|exact H
        have Ny378:=Zz.mk hy378
        clear hy378
        have H':=Zz.mk H
        clear H
        have p376:0≤(x12_1:Int):=of_decide_eq_true (by first|(with_reducible assumption)|assumption)
        have q376:x12_1<(l0_0.length:Int):=of_decide_eq_true (by first|(with_reducible assumption)|assumption)
        obtain ⟨ad376,e376,hx376_0,hx376_1,hx376_2⟩:=at_T62 HR0_0.out x12_1 p376 q376
        cases e376
        replace hx376_0:=(HB.out.cell (World.block_lt_of_cell? w _ hx376_0)).trans hx376_0
        replace hx376_1:=(HB.out.cell (World.block_lt_of_cell? w _ hx376_1)).trans hx376_1
        replace hx376_2:=(HB.out.cell (World.block_lt_of_cell? w _ hx376_2)).trans hx376_2
        replace p376:=eq_true p376
        replace q376:=eq_true q376
        go_wp2_with (first|((with_reducible refine gate_dst (N:=7) rfl ?_);refine box_event ?hg (N:=7) ?hd (cs:=#[.int .i64 0,.int .i64 0,.bool false]) (t:=62) ?hr ?_;(case hd=>rfl);(case hg=>rfl);(case hr=>first|(go_simp;done)|(go_simp;rfl));intro gb377 hg w12 hbox hb;have n0_:=Zz.mk (Kd.R_below (by (with_reducible repeat first|apply Kd.R_alloc|apply Kd.R_drewN|apply Kd.R_drew);exact HO_5.out) hb);have n1_:=Zz.mk (bB (g:=gb372) (o:=.cells #[.slice (some ad376) l0_0.length c0_0] 24 (0,0)) (by (with_reducible repeat first|apply bN|apply bD|apply bA);exact BK372.out) hb);have n2_:=Zz.mk (qP (by repeat (first|(with_reducible first|exact HB.out|apply qA|apply qN|apply q1_|refine qS ?_ GE372.out)|exact HB.out)) hb);have n3_:=Zz.mk (hbox);have n4_:=Zz.mk ((by rw [hg];exact (qZ (by repeat (first|(with_reducible first|exact HB.out|apply qA|apply qN|apply q1_|refine qS ?_ GE372.out)|exact HB.out))):w.heap.size≤gb377));have n5_:=Zz.mk ((by rw [hg];exact (qZ (by repeat (first|(with_reducible first|exact HB.out|apply qA|apply qN|apply q1_|refine qS ?_ GE372.out)|exact HB.out))):w.heap.size≤gb377));have n6_:=Zz.mk ((by rw [hg];exact Nat.ne_of_lt (blk_lt (g:=gb372) (o:=.cells #[.slice (some ad376) l0_0.length c0_0] 24 (0,0)) (by (with_reducible repeat first|apply bN|apply bD|apply bA);exact BK372.out)):gb372 ≠ gb377));have n7_:=Zz.mk ((by rw [hg];exact Nat.ne_of_gt (blk_lt (g:=gb372) (o:=.cells #[.slice (some ad376) l0_0.length c0_0] 24 (0,0)) (by (with_reducible repeat first|apply bN|apply bD|apply bA);exact BK372.out)):gb377 ≠ gb372));clear HO_5;clear BK372;clear HB;have HO_5:=n0_;have BK372:=n1_;have HB:=n2_;have BK377:=n3_;have GW377:=n4_;have GE377:=n5_;have NB372_377:=n6_;have NB377_372:=n7_;clear n0_ n1_ n2_ n3_ n4_ n5_ n6_ n7_;clear hb hbox hg;have hnb13:=NB377_372.out;have hnc13:=NB372_377.out;have hcz14_0:w12.cell? ⟨gb377,0,none⟩=some (.int .i64 0):=(bC BK377.out 0).trans rfl;have hcz14_1:w12.cell? ⟨gb377,1,none⟩=some (.int .i64 0):=(bC BK377.out 1).trans rfl;have hcz14_2:w12.cell? ⟨gb377,2,none⟩=some (.bool false):=(bC BK377.out 2).trans rfl;have hfz14_0:=bF BK377.out 0;have hfz14_1:=bF BK377.out 1;have hfz14_2:=bF BK377.out 2)|((with_reducible refine gate_builtin (b:=.append) (xs:=#[.tmp 21,.tmp 23]) rfl ?_);at_builtin;refine Kd.R_append (Kd.int .i64) (w0:=w) w.heap.size rfl (.tmp 21) (.tmp 23) 43 3 (.int .i64 0) 8 rfl Try.underlying43 info3 rfl (by decide) (by omega) u5 x5_1 x12_1 [.int .i64 x12_1] (fun _=>True) (fun _=>False) rfl (by first|(go_simp;done)|(go_simp;rfl)) ?aP (fun _ hk=>hk.elim) ?aF ?aO ?aB ?aS ?aL ?_;(case aP=>exact rfl);(case aB=>exact (by repeat (first|(with_reducible first|exact HB.out|apply qA|apply qN|apply q1_|refine qS ?_ GE372.out|refine qS ?_ GE377.out)|exact HB.out)));(case aF=>exact (fun _ _=>trivial));(case aO=>exact (by (with_reducible repeat first|apply Kd.R_alloc|apply Kd.R_drewN|apply Kd.R_drew);exact Kd.R_mono (R_same_ (Kd.R_far (p:=⟨gb377,2,none⟩) (Kd.R_far (p:=⟨gb377,1,none⟩) (Kd.R_far (p:=⟨gb377,0,none⟩) (Kd.R_types HO_5.out BK377.out (by decide)) (fun _ hk=>hk.2) (.int .i64 ((rT l0_0 x12_1).f0))) (fun _ hk=>hk.2) (.int .i64 ((rT l0_0 x12_1).f1))) (fun _ hk=>hk.2) (.bool ((rT l0_0 x12_1).f2))) rfl) (fun _ hk=>trivial)));(case aS=>exact (qZ (by repeat (first|(with_reducible first|exact HB.out|apply qA|apply qN|apply q1_|refine qS ?_ GE372.out|refine qS ?_ GE377.out)|exact HB.out))));(case aL=>have:=LMc11.out;omega);intro v379 w15 ho hb hg hat;rw [← Ny378.out] at ho;have n0_:=Zz.mk (blk_grown (g:=gb372) (o:=.cells #[.slice (some ad376) l0_0.length c0_0] 24 (0,0)) (by (with_reducible repeat first|apply bN|apply bD|apply bA);refine blk_far ?_ NB372_377.out _;(with_reducible repeat first|apply bN|apply bD|apply bA);refine blk_far ?_ NB372_377.out _;(with_reducible repeat first|apply bN|apply bD|apply bA);refine blk_far ?_ NB372_377.out _;(with_reducible repeat first|apply bN|apply bD|apply bA);exact BK372.out) hg (Kd.R_ne HO_5.out BK372.out (by decide)));have n1_:=Zz.mk (blk_grown (g:=gb377) (o:=.cells #[.int .i64 ((rT l0_0 x12_1).f0),.int .i64 ((rT l0_0 x12_1).f1),.bool ((rT l0_0 x12_1).f2)] 62 (0,0)) (by (with_reducible repeat first|apply bN|apply bD|apply bA);refine blk_put (cs:=#[.int .i64 ((rT l0_0 x12_1).f0),.int .i64 ((rT l0_0 x12_1).f1),.bool false]) ?_ 2 _ rfl;(with_reducible repeat first|apply bN|apply bD|apply bA);refine blk_put (cs:=#[.int .i64 ((rT l0_0 x12_1).f0),.int .i64 0,.bool false]) ?_ 1 _ rfl;(with_reducible repeat first|apply bN|apply bD|apply bA);refine blk_put (cs:=#[.int .i64 0,.int .i64 0,.bool false]) ?_ 0 _ rfl;(with_reducible repeat first|apply bN|apply bD|apply bA);exact BK377.out) hg (Kd.R_ne HO_5.out BK377.out (by decide)));have n2_:=Zz.mk (hb);have n3_:=Zz.mk (ho);clear BK372;clear BK377;clear HB;clear HO_5;have BK372:=n0_;have BK377:=n1_;have HB:=n2_;have HO380:=n3_;clear n0_ n1_ n2_ n3_;clear ho hb hg hat))
        go_roundg k1
        case measure=>have:=HK1.out;omega
        case rel=>exact ⟨(y378),(wrap64 (x12_1+1)),(by first|rfl|(simp;done)|(simp [*];done)),H',⟨by have:=HK1.out;omega⟩,⟨by (with_reducible repeat first|apply Kd.R_alloc|apply Kd.R_drewN|apply Kd.R_drew);exact HO380.out⟩,⟨by (with_reducible repeat first|apply bN|apply bD|apply bA);exact BK372.out⟩,⟨by repeat (first|(with_reducible first|exact HB.out|apply qA|apply qN|apply q1_|refine qS ?_ GE372.out|refine qS ?_ GE377.out)|exact HB.out)⟩⟩
       ·rw [if_neg c11] at H
        exact absurd H (by simp)
      ·rw [if_neg c10] at H
       have c10b0:(((rT l0_0 x12_1).f1) == a1)=false:=beq_eq_false_iff_ne.mpr c10
       have c10b1:(((rT l0_0 x12_1).f1) != a1)=true:=bne_iff_ne.mpr c10
       have H':=Zz.mk H
       clear H
       have p376:0≤(x12_1:Int):=of_decide_eq_true (by first|(with_reducible assumption)|assumption)
       have q376:x12_1<(l0_0.length:Int):=of_decide_eq_true (by first|(with_reducible assumption)|assumption)
       obtain ⟨ad376,e376,hx376_0,hx376_1,hx376_2⟩:=at_T62 HR0_0.out x12_1 p376 q376
       cases e376
       replace hx376_0:=(HB.out.cell (World.block_lt_of_cell? w _ hx376_0)).trans hx376_0
       replace hx376_1:=(HB.out.cell (World.block_lt_of_cell? w _ hx376_1)).trans hx376_1
       replace hx376_2:=(HB.out.cell (World.block_lt_of_cell? w _ hx376_2)).trans hx376_2
       replace p376:=eq_true p376
       replace q376:=eq_true q376
       go_wp2_with (first|((with_reducible refine gate_dst (N:=7) rfl ?_);refine box_event ?hg (N:=7) ?hd (cs:=#[.int .i64 0,.int .i64 0,.bool false]) (t:=62) ?hr ?_;(case hd=>rfl);(case hg=>rfl);(case hr=>first|(go_simp;done)|(go_simp;rfl));intro gb377 hg w16 hbox hb;have n0_:=Zz.mk (Kd.R_below (by (with_reducible repeat first|apply Kd.R_alloc|apply Kd.R_drewN|apply Kd.R_drew);exact HO_5.out) hb);have n1_:=Zz.mk (bB (g:=gb372) (o:=.cells #[.slice (some ad376) l0_0.length c0_0] 24 (0,0)) (by (with_reducible repeat first|apply bN|apply bD|apply bA);exact BK372.out) hb);have n2_:=Zz.mk (qP (by repeat (first|(with_reducible first|exact HB.out|apply qA|apply qN|apply q1_|refine qS ?_ GE372.out)|exact HB.out)) hb);have n3_:=Zz.mk (hbox);have n4_:=Zz.mk ((by rw [hg];exact (qZ (by repeat (first|(with_reducible first|exact HB.out|apply qA|apply qN|apply q1_|refine qS ?_ GE372.out)|exact HB.out))):w.heap.size≤gb377));have n5_:=Zz.mk ((by rw [hg];exact (qZ (by repeat (first|(with_reducible first|exact HB.out|apply qA|apply qN|apply q1_|refine qS ?_ GE372.out)|exact HB.out))):w.heap.size≤gb377));have n6_:=Zz.mk ((by rw [hg];exact Nat.ne_of_lt (blk_lt (g:=gb372) (o:=.cells #[.slice (some ad376) l0_0.length c0_0] 24 (0,0)) (by (with_reducible repeat first|apply bN|apply bD|apply bA);exact BK372.out)):gb372 ≠ gb377));have n7_:=Zz.mk ((by rw [hg];exact Nat.ne_of_gt (blk_lt (g:=gb372) (o:=.cells #[.slice (some ad376) l0_0.length c0_0] 24 (0,0)) (by (with_reducible repeat first|apply bN|apply bD|apply bA);exact BK372.out)):gb377 ≠ gb372));clear HO_5;clear BK372;clear HB;have HO_5:=n0_;have BK372:=n1_;have HB:=n2_;have BK377:=n3_;have GW377:=n4_;have GE377:=n5_;have NB372_377:=n6_;have NB377_372:=n7_;clear n0_ n1_ n2_ n3_ n4_ n5_ n6_ n7_;clear hb hbox hg;have hnb17:=NB377_372.out;have hnc17:=NB372_377.out;have hcz18_0:w16.cell? ⟨gb377,0,none⟩=some (.int .i64 0):=(bC BK377.out 0).trans rfl;have hcz18_1:w16.cell? ⟨gb377,1,none⟩=some (.int .i64 0):=(bC BK377.out 1).trans rfl;have hcz18_2:w16.cell? ⟨gb377,2,none⟩=some (.bool false):=(bC BK377.out 2).trans rfl;have hfz18_0:=bF BK377.out 0;have hfz18_1:=bF BK377.out 1;have hfz18_2:=bF BK377.out 2))
       go_roundg k1
       case measure=>have:=HK1.out;omega
       case rel=>exact ⟨(x5_1),(wrap64 (x12_1+1)),(by first|rfl|(simp;done)|(simp [*];done)),H',⟨by have:=HK1.out;omega⟩,⟨by (with_reducible repeat first|apply Kd.R_alloc|apply Kd.R_drewN|apply Kd.R_drew);exact Kd.R_mono (R_same_ (Kd.R_far (p:=⟨gb377,2,none⟩) (Kd.R_far (p:=⟨gb377,1,none⟩) (Kd.R_far (p:=⟨gb377,0,none⟩) (Kd.R_types HO_5.out BK377.out (by decide)) (fun _ hk=>hk.2) (.int .i64 ((rT l0_0 x12_1).f0))) (fun _ hk=>hk.2) (.int .i64 ((rT l0_0 x12_1).f1))) (fun _ hk=>hk.2) (.bool ((rT l0_0 x12_1).f2))) rfl) (fun _ hk=>trivial)⟩,⟨by (with_reducible repeat first|apply bN|apply bD|apply bA);refine blk_far ?_ NB372_377.out _;(with_reducible repeat first|apply bN|apply bD|apply bA);refine blk_far ?_ NB372_377.out _;(with_reducible repeat first|apply bN|apply bD|apply bA);refine blk_far ?_ NB372_377.out _;(with_reducible repeat first|apply bN|apply bD|apply bA);exact BK372.out⟩,⟨by repeat (first|(with_reducible first|exact HB.out|apply qA|apply qN|apply q1_|refine qS ?_ GE372.out|refine qS ?_ GE377.out)|exact HB.out)⟩⟩
     ·rw [if_neg c9] at H
      exact absurd H (by simp)
    ·rw [if_neg c8] at H
     exact absurd H (by simp)
   ·rw [if_neg c7] at H
    have c7b0:decide (x12_1<(l0_0.length:Int))=false:=decide_eq_false c7
    clear c7
    obtain rfl:=Option.some.inj H
    go_wp2
    go_ret
    exact ⟨_,by first|rfl|(simp [errW_none,errW_some] <;> rfl)|(simp [*,errW_none,errW_some] <;> rfl),by (with_reducible repeat first|apply Kd.R_alloc|apply Kd.R_drewN|apply Kd.R_drew);exact HO_5.out,by repeat (first|(with_reducible first|exact HB.out|apply qA|apply qN|apply q1_|refine qS ?_ GE372.out)|exact HB.out)⟩
def impl_Trie_stays.f (k:Nat) (l0_0:List (S62)) (a1:Int):Option (Bool):=if a1=0 then (some true) else (if 0≤a1 then (if a1<(l0_0.length:Int) then (if (rT l0_0 a1).f2=true then (some true) else ((impl_Trie_kids.f k l0_0 a1).bind fun t383=>(some ((t383.length:Int) != 1)))) else (none)) else (none))
set_option maxHeartbeats 8000000 in
set_option maxRecDepth 100000 in
theorem impl_Trie_stays.calls (k:Nat) (A0_0:Option Addr) (c0_0:Nat) (l0_0:List (S62)) (a1:Int) (r:Bool) (w:World) (hr0_0:Kd.C k62 w A0_0 l0_0.length l0_0) (hc0_0:l0_0.length≤c0_0) (h:impl_Trie_stays.f k l0_0 a1=some r) :
  Calls Try.prog 53 #[.agg #[.slice A0_0 l0_0.length c0_0],.int .i64 a1] w fun e w'=>e=.returned (.bool r)∧Below w.heap.size w w':=by
 have hu24:=Try.underlying24
 have HR0_0:=Zz.mk hr0_0
 have HC0_0:=Zz.mk hc0_0
 clear hr0_0 hc0_0
 have HB:=Zz.mk (Below.refl w.heap.size w)
 have H:(if a1=0 then (some true) else (if 0≤a1 then (if a1<(l0_0.length:Int) then (if (rT l0_0 a1).f2=true then (some true) else ((impl_Trie_kids.f k l0_0 a1).bind fun t383=>(some ((t383.length:Int) != 1)))) else (none)) else (none)))=some r:=h
 clear h
 by_cases c3:a1=0
 ·rw [if_pos c3] at H
  have c3b0:(a1 == 0)=true:=beq_iff_eq.mpr c3
  have c3b1:(a1 != 0)=false:=bne_eq_false_iff_eq.mpr c3
  clear c3
  obtain rfl:=Option.some.inj H
  go_enter Try.func53,Try.ntmps53
  go_wp2_with (first|((with_reducible refine gate_dst (N:=2) rfl ?_);(try (refine gate_guard (by rfl) ?_;dsimp only));refine box_event ?hg (N:=2) ?hd (cs:=#[.slice A0_0 l0_0.length c0_0]) (t:=24) ?hr ?_;(case hd=>rfl);(case hg=>rfl);(case hr=>first|(go_simp;done)|(go_simp;rfl));intro gb381 hg w4 hbox hb;have n0_:=Zz.mk (qP (by repeat (first|(with_reducible first|exact HB.out|apply qA|apply qN|apply q1_)|exact HB.out)) hb);have n1_:=Zz.mk (hbox);have n2_:=Zz.mk ((by rw [hg];exact (qZ (by repeat (first|(with_reducible first|exact HB.out|apply qA|apply qN|apply q1_)|exact HB.out))):w.heap.size≤gb381));have n3_:=Zz.mk ((by rw [hg];exact (qZ (by repeat (first|(with_reducible first|exact HB.out|apply qA|apply qN|apply q1_)|exact HB.out))):w.heap.size≤gb381));clear HB;have HB:=n0_;have BK381:=n1_;have GW381:=n2_;have GE381:=n3_;clear n0_ n1_ n2_ n3_;clear hb hbox hg))
  go_ret
  exact ⟨by first|rfl|(simp [errW_none,errW_some] <;> rfl)|(simp [*,errW_none,errW_some] <;> rfl),by repeat (first|(with_reducible first|exact HB.out|apply qA|apply qN|apply q1_|refine qS ?_ GE381.out)|exact HB.out)⟩
 ·rw [if_neg c3] at H
  have c3b0:(a1 == 0)=false:=beq_eq_false_iff_ne.mpr c3
  have c3b1:(a1 != 0)=true:=bne_iff_ne.mpr c3
  by_cases c5:0≤a1
  ·rw [if_pos c5] at H
   have c5b0:decide (0≤a1)=true:=decide_eq_true c5
   clear c5
   by_cases c6:a1<(l0_0.length:Int)
   ·rw [if_pos c6] at H
    have c6b0:decide (a1<(l0_0.length:Int))=true:=decide_eq_true c6
    clear c6
    obtain ⟨bq7,hbq7⟩:∃ b_:Bool,b_=((rT l0_0 a1).f2):=⟨_,rfl⟩
    replace H:(if bq7=true then (some true) else ((impl_Trie_kids.f k l0_0 a1).bind fun t383=>(some ((t383.length:Int) != 1))))=some r:=by rw [← hbq7] at H;exact H
    have Nbq7:=Zz.mk hbq7
    clear hbq7
    by_cases c8:bq7=true
    ·subst c8
     have H1:(some true)=some r:=by rw [if_pos rfl] at H;exact H
     clear H
     have H:=H1
     clear H1
     obtain rfl:=Option.some.inj H
     go_enter Try.func53,Try.ntmps53
     go_wp2_with (first|((with_reducible refine gate_dst (N:=2) rfl ?_);(try (refine gate_guard (by rfl) ?_;dsimp only));refine box_event ?hg (N:=2) ?hd (cs:=#[.slice A0_0 l0_0.length c0_0]) (t:=24) ?hr ?_;(case hd=>rfl);(case hg=>rfl);(case hr=>first|(go_simp;done)|(go_simp;rfl));intro gb381 hg w9 hbox hb;have n0_:=Zz.mk (qP (by repeat (first|(with_reducible first|exact HB.out|apply qA|apply qN|apply q1_)|exact HB.out)) hb);have n1_:=Zz.mk (hbox);have n2_:=Zz.mk ((by rw [hg];exact (qZ (by repeat (first|(with_reducible first|exact HB.out|apply qA|apply qN|apply q1_)|exact HB.out))):w.heap.size≤gb381));have n3_:=Zz.mk ((by rw [hg];exact (qZ (by repeat (first|(with_reducible first|exact HB.out|apply qA|apply qN|apply q1_)|exact HB.out))):w.heap.size≤gb381));clear HB;have HB:=n0_;have BK381:=n1_;have GW381:=n2_;have GE381:=n3_;clear n0_ n1_ n2_ n3_;clear hb hbox hg;have hcz10_0:w9.cell? ⟨gb381,0,none⟩=some (.slice A0_0 l0_0.length c0_0):=(bC BK381.out 0).trans rfl;have hfz10_0:=bF BK381.out 0;have p382:0≤(a1:Int):=of_decide_eq_true (by first|(with_reducible assumption)|assumption);have q382:a1<(l0_0.length:Int):=of_decide_eq_true (by first|(with_reducible assumption)|assumption);obtain ⟨ad382,e382,hx382_0,hx382_1,hx382_2⟩:=at_T62 HR0_0.out a1 p382 q382;(try rw [← Nbq7.out] at hx382_2);cases e382;replace hx382_0:=(HB.out.cell (World.block_lt_of_cell? w _ hx382_0)).trans hx382_0;replace hx382_1:=(HB.out.cell (World.block_lt_of_cell? w _ hx382_1)).trans hx382_1;replace hx382_2:=(HB.out.cell (World.block_lt_of_cell? w _ hx382_2)).trans hx382_2;replace p382:=eq_true p382;replace q382:=eq_true q382))
     go_ret
     exact ⟨by first|rfl|(simp [errW_none,errW_some] <;> rfl)|(simp [*,errW_none,errW_some] <;> rfl),by repeat (first|(with_reducible first|exact HB.out|apply qA|apply qN|apply q1_|refine qS ?_ GE381.out)|exact HB.out)⟩
    ·replace c8:=Bool.eq_false_iff.mpr c8
     subst c8
     have H1:((impl_Trie_kids.f k l0_0 a1).bind fun t383=>(some ((t383.length:Int) != 1)))=some r:=by rw [if_neg (show ¬ (false=true) by decide)] at H;exact H
     clear H
     have H:=H1
     clear H1
     replace H:=Option.bind_eq_some_iff.mp H
     obtain ⟨t383,A110,H⟩:=H
     replace H:(some ((t383.length:Int) != 1))=some r:=H
     have A11:=Zz.mk A110
     clear A110
     obtain rfl:=Option.some.inj H
     go_enter Try.func53,Try.ntmps53
     go_wp2_with (first|((with_reducible refine gate_dst (N:=2) rfl ?_);(try (refine gate_guard (by rfl) ?_;dsimp only));refine box_event ?hg (N:=2) ?hd (cs:=#[.slice A0_0 l0_0.length c0_0]) (t:=24) ?hr ?_;(case hd=>rfl);(case hg=>rfl);(case hr=>first|(go_simp;done)|(go_simp;rfl));intro gb381 hg w12 hbox hb;have n0_:=Zz.mk (qP (by repeat (first|(with_reducible first|exact HB.out|apply qA|apply qN|apply q1_)|exact HB.out)) hb);have n1_:=Zz.mk (hbox);have n2_:=Zz.mk ((by rw [hg];exact (qZ (by repeat (first|(with_reducible first|exact HB.out|apply qA|apply qN|apply q1_)|exact HB.out))):w.heap.size≤gb381));have n3_:=Zz.mk ((by rw [hg];exact (qZ (by repeat (first|(with_reducible first|exact HB.out|apply qA|apply qN|apply q1_)|exact HB.out))):w.heap.size≤gb381));clear HB;have HB:=n0_;have BK381:=n1_;have GW381:=n2_;have GE381:=n3_;clear n0_ n1_ n2_ n3_;clear hb hbox hg;have hcz13_0:w12.cell? ⟨gb381,0,none⟩=some (.slice A0_0 l0_0.length c0_0):=(bC BK381.out 0).trans rfl;have hfz13_0:=bF BK381.out 0;have p382:0≤(a1:Int):=of_decide_eq_true (by first|(with_reducible assumption)|assumption);have q382:a1<(l0_0.length:Int):=of_decide_eq_true (by first|(with_reducible assumption)|assumption);obtain ⟨ad382,e382,hx382_0,hx382_1,hx382_2⟩:=at_T62 HR0_0.out a1 p382 q382;(try rw [← Nbq7.out] at hx382_2);cases e382;replace hx382_0:=(HB.out.cell (World.block_lt_of_cell? w _ hx382_0)).trans hx382_0;replace hx382_1:=(HB.out.cell (World.block_lt_of_cell? w _ hx382_1)).trans hx382_1;replace hx382_2:=(HB.out.cell (World.block_lt_of_cell? w _ hx382_2)).trans hx382_2;replace p382:=eq_true p382;replace q382:=eq_true q382)|(go_at_call 38;(with_reducible refine (impl_Trie_kids.calls k _ _ l0_0 a1 t383 _ ?side1 ?side2 A11.out).mono ?_);(case side1=>repeat (first|exact (Kd.C_below HR0_0.out HB.out)|(with_reducible refine Kd.C_alloc ?_ _)|(with_reducible refine Kd.C_drewN ?_ _)|(with_reducible refine Kd.C_drew ?_)));(case side2=>exact HC0_0.out);rintro e w14 ⟨v384,rfl,ho0,hb⟩;have n0_:=Zz.mk (Kd.R_lower ho0 (qZ (by repeat (first|(with_reducible first|exact HB.out|apply qA|apply qN|apply q1_|refine qS ?_ GE381.out)|exact HB.out))));have n1_:=Zz.mk (bB (g:=gb381) (o:=.cells #[.slice (some ad382) l0_0.length c0_0] 24 (0,0)) (by (with_reducible repeat first|apply bN|apply bD|apply bA);exact BK381.out) hb);have n2_:=Zz.mk (qP (by repeat (first|(with_reducible first|exact HB.out|apply qA|apply qN|apply q1_|refine qS ?_ GE381.out)|exact HB.out)) hb);clear BK381;clear HB;have HO385:=n0_;have BK381:=n1_;have HB:=n2_;clear n0_ n1_ n2_;(try clear hb);(try clear hb2);(try clear hk);(try clear hi);(try clear ho0);obtain ⟨Ao15,co15,eo15⟩:=Kd.R_slice HO385.out;subst eo15))
     go_ret
     exact ⟨by first|rfl|(simp [errW_none,errW_some] <;> rfl)|(simp [*,errW_none,errW_some] <;> rfl),by repeat (first|(with_reducible first|exact HB.out|apply qA|apply qN|apply q1_|refine qS ?_ GE381.out)|exact HB.out)⟩
   ·rw [if_neg c6] at H
    exact absurd H (by simp)
  ·rw [if_neg c5] at H
   exact absurd H (by simp)
end Go.Proofs.Ytghkbgmbbcaecaa.Q
namespace Go.Proofs.Ytghkbgmbbcaecaa.Q
open Go.RowKit Go.Proofs.YtghkbgmbbcaecaaW.PrintWords Go.Proofs.YtghkbgmbbcaecaaW.PrintLast Go.Proofs.YtghkbgmbbcaecaaW.PrintMore
attribute [local go_sem] run_field_23 run_field_24 run_field_31 run_field_32 run_field_35 run_field_36 isSome_setCell max2_int min2_int max_two min_two max_three min_three max_four min_four   -- for this text's walks alone
set_option linter.unusedVariables false
set_option linter.unusedSimpArgs false
mutual
def impl_Trie_press.l0:Nat→List ByteArray→List Int→List (S62)→Int→Int→List (S62)→List (S69)→Option ((List (S69)))
  | 0,_,_,_,_,_,_,_=>none
  | k+1,x3,x6,x22,x23,x24,x387000,x396000=>if x24<x23 then (if 0≤x24 then (if x24<(x22.length:Int) then ((impl_Trie_stays.f k x387000 x24).bind fun t398=>(if t398=true then (if x24 > 0 then (impl_Trie_press.l1 k x3 x6 x24 ((rT x22 x24).f1) x22 x23 x24 x387000 x396000 (⟨#[]⟩:ByteArray) (-1) ((rT x22 x24).f2)) else (if x24<(x6.length:Int) then (if x396000.length<4398046511104 then (impl_Trie_press.l0 k x3 (x6.set (x24:Int).toNat (x396000.length:Int)) x22 x23 (wrap64 (x24+1)) x387000 (x396000 ++ [(⟨(⟨#[]⟩:ByteArray),(-1),(rT x22 x24).f2⟩:S69)])) else (none)) else (none))) else (impl_Trie_press.l0 k x3 x6 x22 x23 (wrap64 (x24+1)) x387000 x396000))) else (none)) else (none)) else (some x396000)
def impl_Trie_press.l1:Nat→List ByteArray→List Int→Int→Int→List (S62)→Int→Int→List (S62)→List (S69)→ByteArray→Int→Bool→Option ((List (S69)))
  | 0,_,_,_,_,_,_,_,_,_,_,_,_=>none
  | k+1,x3,x6,x7,x10,x22,x23,x24,x387000,x396000,x400000,x400001,x400002=>(impl_Trie_stays.f k x387000 x10).bind fun t400=>(if t400=true then (if 0≤x7 then (if x7<(x3.length:Int) then (if 0≤x10 then (if x10<(x3.length:Int) then (if 0≤((rdOf ByteArray.empty x3 x10).size:Int) then (if ((rdOf ByteArray.empty x3 x10).size:Int)≤((rdOf ByteArray.empty x3 x7).size:Int) then (if x10<(x6.length:Int) then (if x7<(x6.length:Int) then (if x396000.length<4398046511104 then (impl_Trie_press.l0 k x3 (x6.set (x7:Int).toNat (x396000.length:Int)) x22 x23 (wrap64 (x24+1)) x387000 (x396000 ++ [(⟨(rdOf ByteArray.empty x3 x7).extract (((rdOf ByteArray.empty x3 x10).size:Int):Int).toNat (rdOf ByteArray.empty x3 x7).size,rd x6 x10,x400002⟩:S69)])) else (none)) else (none)) else (none)) else (none)) else (none)) else (none)) else (none)) else (none)) else (none)) else (if 0≤x10 then (if x10<(x387000.length:Int) then (impl_Trie_press.l1 k x3 x6 x7 ((rT x387000 x10).f1) x22 x23 x24 x387000 x396000 x400000 x400001 x400002) else (none)) else (none)))
end
def impl_Trie_press.f (k:Nat) (l0_0:List (S62)):Option ((List (S69))):=(impl_Trie_prefixes.f k l0_0).bind fun bt388=>(if 0≤(l0_0.length:Int) then (if ((l0_0.length:Int):Int).toNat≤35184372088832 then (impl_Trie_press.l0 k bt388.1 (List.replicate ((l0_0.length:Int):Int).toNat 0) l0_0 (l0_0.length:Int) 0 l0_0 ([]:List (S69))) else (none)) else (none))
def impl_Trie_press.T2:Bool × List (List Nat × List Nat):=(true,[([],[]),([],[]),([1],[1]),([2],[2]),([3,3],[3]),([],[]),([5,0,0,5],[0,5]),([4,6,0,1,2,3,4,5,6],[4])])
def impl_Trie_press.B2:List Nat:=[0,0,2,6,14,0,33,127]
theorem impl_Trie_press.tab2:rtab .any (opsOf Try.f28 2)=impl_Trie_press.T2:=by kernel_rfl
theorem impl_Trie_press.bits2:waitsOk impl_Trie_press.T2.2 impl_Trie_press.B2=true:=by kernel_rfl
def impl_Trie_press.T12:Bool × List (List Nat × List Nat):=(true,[([],[]),([],[]),([0,1],[0,1]),([2],[2]),([],[]),([],[]),([4,5],[4,5]),([6],[6]),([7],[7]),([3,8],[3,8]),([],[]),([],[]),([10,11],[10,11]),([12],[12]),([0,1,2,3,4,5,6,7,8,9],[]),([14,9,0,1,2,3,4,5,6,7,8,9],[9,14]),([0,1,2,3,4,5,6,7,8,9,10,11,12,13,14,15],[]),([16,13,15,0,1,2,3,4,5,6,7,8,9,10,11,12,13,14,15],[13,16])])
def impl_Trie_press.B12:List Nat:=[0,0,3,7,0,0,48,112,240,511,0,0,3072,7168,1023,17407,65535,131071]
theorem impl_Trie_press.tab12:rtab .any (opsOf Try.f28 12)=impl_Trie_press.T12:=by kernel_rfl
theorem impl_Trie_press.bits12:waitsOk impl_Trie_press.T12.2 impl_Trie_press.B12=true:=by kernel_rfl
set_option maxHeartbeats 8000000 in
set_option maxRecDepth 100000 in
theorem impl_Trie_press.calls (k:Nat) (A0_0:Option Addr) (c0_0:Nat) (l0_0:List (S62)) (r:List (S69)) (w:World) (hr0_0:Kd.C k62 w A0_0 l0_0.length l0_0) (hc0_0:l0_0.length≤c0_0) (h:impl_Trie_press.f k l0_0=some r) :
  Calls Try.prog 28 #[.agg #[.slice A0_0 l0_0.length c0_0]] w fun e w'=>∃ v0_:Value,e=.returned (.agg #[v0_])∧Kd.R k69 69 w' w.heap.size (fun _=>True) v0_ r∧Below w.heap.size w w':=by
 have hu24:=Try.underlying24
 have hu36:=Try.underlying36
 have hu62:=Try.underlying62
 have hu69:=Try.underlying69
 have HR0_0:=Zz.mk hr0_0
 have HC0_0:=Zz.mk hc0_0
 clear hr0_0 hc0_0
 have HB:=Zz.mk (Below.refl w.heap.size w)
 have H:((impl_Trie_prefixes.f k l0_0).bind fun bt388=>(if 0≤(l0_0.length:Int) then (if ((l0_0.length:Int):Int).toNat≤35184372088832 then (impl_Trie_press.l0 k bt388.1 (List.replicate ((l0_0.length:Int):Int).toNat 0) l0_0 (l0_0.length:Int) 0 l0_0 ([]:List (S69))) else (none)) else (none)))=some r:=h
 clear h
 replace H:=Option.bind_eq_some_iff.mp H
 obtain ⟨⟨t388,t391⟩,A20,H⟩:=H
 replace H:(if 0≤(l0_0.length:Int) then (if ((l0_0.length:Int):Int).toNat≤35184372088832 then (impl_Trie_press.l0 k t388 (List.replicate ((l0_0.length:Int):Int).toNat 0) l0_0 (l0_0.length:Int) 0 l0_0 ([]:List (S69))) else (none)) else (none))=some r:=H
 have A2:=Zz.mk A20
 clear A20
 by_cases c3:0≤(l0_0.length:Int)
 ·rw [if_pos c3] at H
  have c3b0:=eq_true c3
  have c3b1:decide (0≤(l0_0.length:Int))=true:=decide_eq_true c3
  clear c3
  by_cases c4:((l0_0.length:Int):Int).toNat≤35184372088832
  ·rw [if_pos c4] at H
   have c4b0:=eq_true c4
   have c4b1:decide (((l0_0.length:Int):Int).toNat≤35184372088832)=true:=decide_eq_true c4
   clear c4
   obtain ⟨y392,hy392⟩:∃ y_:List Int,y_=(List.replicate ((l0_0.length:Int):Int).toNat 0):=⟨_,rfl⟩
   replace H:(impl_Trie_press.l0 k t388 y392 l0_0 (l0_0.length:Int) 0 l0_0 ([]:List (S69)))=some r:=by first|(rw [hy392];with_reducible exact H)|(have H2_:=(Option.bind_some _ _).symm.trans H;rw [hy392];with_reducible exact H2_)|(have H2_:=(Option.bind_some _ _).symm.trans H;with_reducible exact H2_)|with_reducible exact H|(rw [hy392];exact H)|exact H
   have Ny392:=Zz.mk hy392
   clear hy392
   have H':=Zz.mk H
   clear H
   go_enter Try.func28,Try.ntmps28
   try go_wp2_with (first|((with_reducible refine gate_dst (N:=1) rfl ?_);refine box_event ?hg (N:=1) ?hd (cs:=#[.slice A0_0 l0_0.length c0_0]) (t:=24) ?hr ?_;(case hd=>rfl);(case hg=>rfl);(case hr=>first|(go_simp;done)|(go_simp;rfl));intro gb386 hg w5 hbox hb;have n0_:=Zz.mk (qP (by repeat (first|(with_reducible first|exact HB.out|apply qA|apply qN|apply q1_)|exact HB.out)) hb);have n1_:=Zz.mk (hbox);have n2_:=Zz.mk ((by rw [hg];exact (qZ (by repeat (first|(with_reducible first|exact HB.out|apply qA|apply qN|apply q1_)|exact HB.out))):w.heap.size≤gb386));have n3_:=Zz.mk ((by rw [hg];exact (qZ (by repeat (first|(with_reducible first|exact HB.out|apply qA|apply qN|apply q1_)|exact HB.out))):w.heap.size≤gb386));clear HB;have HB:=n0_;have BK386:=n1_;have GW386:=n2_;have GE386:=n3_;clear n0_ n1_ n2_ n3_;clear hb hbox hg)|((with_reducible refine gate_dst (N:=2) rfl ?_);refine box_event ?hg (N:=2) ?hd (cs:=#[.slice none 0 0]) (t:=36) ?hr ?_;(case hd=>rfl);(case hg=>rfl);(case hr=>first|(go_simp;done)|(go_simp;rfl));intro gb387 hg w6 hbox hb;have n0_:=Zz.mk (bB (g:=gb386) (o:=.cells #[.slice A0_0 l0_0.length c0_0] 24 (0,0)) (by (with_reducible repeat first|apply bN|apply bD|apply bA);exact BK386.out) hb);have n1_:=Zz.mk (qP (by repeat (first|(with_reducible first|exact HB.out|apply qA|apply qN|apply q1_|refine qS ?_ GE386.out)|exact HB.out)) hb);have n2_:=Zz.mk (hbox);have n3_:=Zz.mk ((by rw [hg];exact (qZ (by repeat (first|(with_reducible first|exact HB.out|apply qA|apply qN|apply q1_|refine qS ?_ GE386.out)|exact HB.out))):w.heap.size≤gb387));have n4_:=Zz.mk ((by rw [hg];exact (qZ (by repeat (first|(with_reducible first|exact HB.out|apply qA|apply qN|apply q1_|refine qS ?_ GE386.out)|exact HB.out))):w.heap.size≤gb387));have n5_:=Zz.mk ((by rw [hg];exact Nat.ne_of_lt (blk_lt (g:=gb386) (o:=.cells #[.slice A0_0 l0_0.length c0_0] 24 (0,0)) (by (with_reducible repeat first|apply bN|apply bD|apply bA);exact BK386.out)):gb386 ≠ gb387));have n6_:=Zz.mk ((by rw [hg];exact Nat.ne_of_gt (blk_lt (g:=gb386) (o:=.cells #[.slice A0_0 l0_0.length c0_0] 24 (0,0)) (by (with_reducible repeat first|apply bN|apply bD|apply bA);exact BK386.out)):gb387 ≠ gb386));clear BK386;clear HB;have BK386:=n0_;have HB:=n1_;have BK387:=n2_;have GW387:=n3_;have GE387:=n4_;have NB386_387:=n5_;have NB387_386:=n6_;clear n0_ n1_ n2_ n3_ n4_ n5_ n6_;clear hb hbox hg;have hnb7:=NB386_387.out;have hnc7:=NB387_386.out;have hcz8_0:w6.cell? ⟨gb386,0,none⟩=some (.slice A0_0 l0_0.length c0_0):=(bC BK386.out 0).trans rfl;have hfz8_0:=bF BK386.out 0)|((with_reducible refine gate_callee (f:=47) rfl ?_);refine goesL_ (some 13) rfl rfl Try.func47 (by kernel_rfl) rfl #[.agg #[.slice A0_0 l0_0.length c0_0]] rfl (by (try simp only [List.map_toArray,List.map_cons,List.map_nil]);first|done|rfl|(simp only [List.length_drop,List.length_take];rfl)) ?_;(with_reducible refine (impl_Trie_prefixes.calls k _ _ l0_0 t388 t391 _ ?side1 ?side2 A2.out).mono ?_);(case side1=>repeat (first|exact (Kd.C_below HR0_0.out HB.out)|(with_reducible refine Kd.C_alloc ?_ _)|(with_reducible refine Kd.C_drewN ?_ _)|(with_reducible refine Kd.C_drew ?_)));(case side2=>exact HC0_0.out);rintro e w9 ⟨v389,rfl,ho0,hb⟩;refine ⟨_,rfl,?_⟩;have n0_:=Zz.mk (Kd.R_lower ho0 (qZ (by repeat (first|(with_reducible first|exact HB.out|apply qA|apply qN|apply q1_|refine qS ?_ GE386.out|refine qS ?_ GE387.out)|exact HB.out))));have n1_:=Zz.mk (bB (g:=gb386) (o:=.cells #[.slice A0_0 l0_0.length c0_0] 24 (0,0)) (by (with_reducible repeat first|apply bN|apply bD|apply bA);exact BK386.out) hb);have n2_:=Zz.mk (bB (g:=gb387) (o:=.cells #[.slice none 0 0] 36 (0,0)) (by (with_reducible repeat first|apply bN|apply bD|apply bA);exact BK387.out) hb);have n3_:=Zz.mk (qP (by repeat (first|(with_reducible first|exact HB.out|apply qA|apply qN|apply q1_|refine qS ?_ GE386.out|refine qS ?_ GE387.out)|exact HB.out)) hb);clear BK386;clear BK387;clear HB;have HO390:=n0_;have BK386:=n1_;have BK387:=n2_;have HB:=n3_;clear n0_ n1_ n2_ n3_;(try clear hb);(try clear hb2);(try clear hk);(try clear hi);(try clear ho0)))
   have n0_:=Zz.mk (Kd.R_drew HO390.out)
   have n1_:=Zz.mk (bD BK386.out)
   have n2_:=Zz.mk (bD BK387.out)
   have n3_:=Zz.mk (q1_ HB.out)
   revert n0_ n1_ n2_ n3_
   clear HO390 BK386 BK387 HB
   intro HO390 BK386 BK387 HB
   refine start_ (n:=8) (S:=fun w'=>w'.cell? ⟨gb386,0,none⟩=some (.slice A0_0 l0_0.length c0_0)) (ds:=[]) #[false,false,false,false,false,false,false,false] (by kernel_rfl) rfl rfl ((bC BK386.out 0).trans rfl) (fun hHeld=>?_);refine with_tabW impl_Trie_press.tab2 impl_Trie_press.bits2 (fun HT_ HW_=>?_)
   generalize w9.drew=w10 at HO390 BK386 BK387 HB hHeld ⊢
   refine pure_ (i:=0) (N:=some 16) (v:=?_) (a':=?_) #[true,false,false,false,false,false,false,false] rfl rfl (any_of HT_.out (by kernel_rfl)) (fun _ _ _ h=>h) (Or.inl ⟨by rfl,?_⟩) ?_ ?_
   rotate_left
   ·intro w'
    go_simp
    with_reducible rfl
   rotate_left
   ·simp only [Act.put,List.setIfInBounds_toArray,List.set_cons_zero,List.set_cons_succ,i64_w,i32_w]
    rfl
   refine pure_ (i:=1) (N:=some 17) (v:=?_) (a':=?_) #[true,true,false,false,false,false,false,false] rfl rfl (any_of HT_.out (by kernel_rfl)) (fun _ _ _ h=>h) (Or.inl ⟨by rfl,?_⟩) ?_ ?_
   rotate_left
   ·intro w'
    go_simp
    with_reducible rfl
   rotate_left
   ·simp only [Act.put,List.setIfInBounds_toArray,List.set_cons_zero,List.set_cons_succ,i64_w,i32_w]
    rfl
   refine take_ (i:=2) (N:=some 18) (v:=?_) (a':=?_) #[true,true,true,false,false,false,false,false] rfl rfl (take_ofW HT_.out HW_.out (by kernel_rfl)) (fun _ _ _ h=>h) (Or.inl ⟨by rfl,?_⟩) hHeld ?_ ?_
   rotate_left
   ·intro w' s0
    go_simp
    with_reducible rfl
   rotate_left
   ·simp only [Act.put,List.setIfInBounds_toArray,List.set_cons_zero,List.set_cons_succ,i64_w,i32_w]
    rfl
   refine pure_ (i:=3) (N:=some 19) (v:=?_) (a':=?_) #[true,true,true,true,false,false,false,false] rfl rfl (any_of HT_.out (by kernel_rfl)) (fun _ _ _ h=>h) (Or.inl ⟨by rfl,?_⟩) ?_ ?_
   rotate_left
   ·intro w'
    go_simp
    with_reducible rfl
   rotate_left
   ·simp only [Act.put,List.setIfInBounds_toArray,List.set_cons_zero,List.set_cons_succ,i64_w,i32_w]
    rfl
   refine join_ (σ:=Value × Nat) 1 #[true,true,true,true,true,true,true,false] (fun s_=>[(20,s_.1),(5,.pointer (some ⟨s_.2,0,none⟩))]) (fun s_ w'=>(w'.cell? ⟨gb386,0,none⟩=some (.slice A0_0 l0_0.length c0_0))∧(Kd.R Kd.string 9 w' w.heap.size (fun _=>True) v389 t388)∧(Kd.R (Kd.int .i64) 3 w' w.heap.size (fun _=>True) s_.1 y392)∧(w'.heap[gb386]?=some (.cells #[.slice A0_0 l0_0.length c0_0] 24 (0,0)))∧(w'.heap[gb387]?=some (.cells #[.slice none 0 0] 36 (0,0)))∧(w'.heap[s_.2]?=some (.cells #[.slice none 0 0] 36 (0,0)))∧(w.heap.size≤s_.2)∧(w.heap.size≤s_.2)∧(gb386 ≠ s_.2)∧(s_.2 ≠ gb386)∧(gb387 ≠ s_.2)∧(s_.2 ≠ gb387)∧(Below w.heap.size w w')) ?_ ?_
   rotate_left
   ·intro hCont
    refine two_ (i:=4) (j:=5) (Ni:=some 20) (Nj:=some 5) #[true,true,true,true,true,false,false,false] #[true,true,true,true,false,true,false,false] rfl rfl rfl rfl (two_of HT_.out (by kernel_rfl)) (by decide) (by decide) (fun K hK=>?_) (fun K hK=>?_)
    ·skip
     refine Kd.R_make_step (Kd.int .i64) _ 3 (by rfl) (N:=20) rfl 43 _ _ rfl (l0_0.length:Int) rfl rfl Try.underlying43 (.int .i64 0) 8 info3 rfl (by decide) (by omega) 0 (ok:=fun _=>True) (okp:=fun _=>True) rfl (fun _ hk=>hk) trivial (of_decide_eq_true (by first|(with_reducible assumption)|assumption)) (Nat.le_trans (Nat.mul_le_mul_right _ (of_decide_eq_true (by first|(with_reducible assumption)|assumption):(l0_0.length:Int).toNat≤35184372088832)) (by omega)) (Below.refl _ _) (Nat.le_refl _) ?_
     intro v393 w11 ho12 hb hg_ hnew_
     clear hg_ hnew_
     (first|rw [← Ny392.out] at ho12|(simp only [Int.reduceToNat] at ho12;rw [← Ny392.out] at ho12))
     have n0_:=Zz.mk (Kd.R_below HO390.out hb)
     have n1_:=Zz.mk (Kd.R_lower ho12 (qZ HB.out))
     have n2_:=Zz.mk (bB BK386.out hb)
     have n3_:=Zz.mk (bB BK387.out hb)
     have n4_:=Zz.mk (qP HB.out hb)
     revert n0_ n1_ n2_ n3_ n4_
     clear HO390 BK386 BK387 HB
     intro HO390 HO394 BK386 BK387 HB
     clear hb ho12
     refine hK.out _ _ ((bC BK386.out 0).trans rfl) (fun hHeld=>?_)
     clear hK K
     refine norm_ (a':=?_) ?_ ?_
     rotate_left
     ·show Act.put _ (some 20) _=_
      simp only [Act.put,List.setIfInBounds_toArray,List.set_cons_zero,List.set_cons_succ,i64_w,i32_w]
      rfl
     refine one_ (i:=5) (N:=some 5) #[true,true,true,true,true,true,false,false] rfl rfl (one_of HT_.out (by kernel_rfl)) (by decide) (fun K hK=>?_)
     refine box_step ?hg (N:=5) ?hd (cs:=#[.slice none 0 0]) (t:=36) ?hr ?_;(case hd=>rfl);(case hg=>rfl);(case hr=>first|(go_simp;done)|(go_simp;rfl))
     intro gb395 hg w13 hbox hb
     have n0_:=Zz.mk (Kd.R_below HO390.out hb)
     have n1_:=Zz.mk (Kd.R_below HO394.out hb)
     have n2_:=Zz.mk (bB BK386.out hb)
     have n3_:=Zz.mk (bB BK387.out hb)
     have n4_:=Zz.mk (qP HB.out hb)
     have n5_:=Zz.mk (hbox)
     have n6_:=Zz.mk ((by rw [hg];exact (qZ HB.out):w.heap.size≤gb395))
     have n7_:=Zz.mk ((by rw [hg];exact (qZ HB.out):w.heap.size≤gb395))
     have n8_:=Zz.mk ((by rw [hg];exact Nat.ne_of_lt (blk_lt BK386.out):gb386 ≠ gb395))
     have n9_:=Zz.mk ((by rw [hg];exact Nat.ne_of_gt (blk_lt BK386.out):gb395 ≠ gb386))
     have n10_:=Zz.mk ((by rw [hg];exact Nat.ne_of_lt (blk_lt BK387.out):gb387 ≠ gb395))
     have n11_:=Zz.mk ((by rw [hg];exact Nat.ne_of_gt (blk_lt BK387.out):gb395 ≠ gb387))
     revert n0_ n1_ n2_ n3_ n4_ n5_ n6_ n7_ n8_ n9_ n10_ n11_
     clear HO390 HO394 BK386 BK387 HB
     intro HO390 HO394 BK386 BK387 HB BK395 GW395 GE395 NB386_395 NB395_386 NB387_395 NB395_387
     clear hb hbox hg
     refine hK.out _ _ ((bC BK386.out 0).trans rfl) (fun hHeld=>?_)
     clear hK K
     refine norm_ (a':=?_) ?_ ?_
     rotate_left
     ·show Act.put _ (some 5) _=_
      simp only [Act.put,List.setIfInBounds_toArray,List.set_cons_zero,List.set_cons_succ,i64_w,i32_w]
      rfl
     refine one_ (i:=6) (N:=none) #[true,true,true,true,true,true,true,false] rfl rfl (one_of HT_.out (by kernel_rfl)) (by decide) (fun K hK=>?_)
     have hs14:w13.cell? ⟨gb395,0,none⟩=some (.slice none 0 0):=(bC BK395.out 0).trans rfl
     have hfs14:=bF BK395.out 0
     have hns14_0:=NB386_395.out
     have hns14_1:=NB387_395.out
     have hms14_0:=NB395_386.out
     have hms14_1:=NB395_387.out
     refine skip_ (w1:=?_) (by rfl) rfl ?_ ?_
     rotate_left
     ·go_simp
      rfl
     refine hK.out _ _ (((cell_far (p:=⟨gb395,_,none⟩) NB386_395.out _).trans (hHeld))) (fun hHeld=>?_)
     clear hK K
     exact norm_ (by simp only [putAll,Act.put,List.setIfInBounds_toArray,List.set_cons_zero,List.set_cons_succ]) (hCont (v393,gb395) _ ⟨hHeld,(Kd.R_mono (R_same_ (Kd.R_far (p:=⟨gb395,0,none⟩) (Kd.R_types HO390.out BK395.out (by decide)) (fun _ hk=>hk.2) (.slice none 0 0)) rfl) (fun _ hk=>trivial)),(Kd.R_mono (R_same_ (Kd.R_far (p:=⟨gb395,0,none⟩) (Kd.R_types HO394.out BK395.out (by decide)) (fun _ hk=>hk.2) (.slice none 0 0)) rfl) (fun _ hk=>trivial)),(by (with_reducible repeat first|apply bN|apply bD|apply bA);refine blk_far ?_ NB386_395.out _;(with_reducible repeat first|apply bN|apply bD|apply bA);exact BK386.out),(by (with_reducible repeat first|apply bN|apply bD|apply bA);refine blk_far ?_ NB387_395.out _;(with_reducible repeat first|apply bN|apply bD|apply bA);exact BK387.out),(by (with_reducible repeat first|apply bN|apply bD|apply bA);refine blk_put (cs:=#[.slice none 0 0]) ?_ 0 _ rfl;(with_reducible repeat first|apply bN|apply bD|apply bA);exact BK395.out),GW395.out,GE395.out,NB386_395.out,NB395_386.out,NB387_395.out,NB395_387.out,(by repeat (first|(with_reducible first|exact HB.out|apply qA|apply qN|apply q1_|refine qS ?_ GE386.out|refine qS ?_ GE387.out|refine qS ?_ GE395.out)|exact HB.out))⟩)
    ·skip
     refine box_step ?hg (N:=5) ?hd (cs:=#[.slice none 0 0]) (t:=36) ?hr ?_;(case hd=>rfl);(case hg=>rfl);(case hr=>first|(go_simp;done)|(go_simp;rfl))
     intro gb395 hg w11 hbox hb
     have n0_:=Zz.mk (Kd.R_below HO390.out hb)
     have n1_:=Zz.mk (bB BK386.out hb)
     have n2_:=Zz.mk (bB BK387.out hb)
     have n3_:=Zz.mk (qP HB.out hb)
     have n4_:=Zz.mk (hbox)
     have n5_:=Zz.mk ((by rw [hg];exact (qZ HB.out):w.heap.size≤gb395))
     have n6_:=Zz.mk ((by rw [hg];exact (qZ HB.out):w.heap.size≤gb395))
     have n7_:=Zz.mk ((by rw [hg];exact Nat.ne_of_lt (blk_lt BK386.out):gb386 ≠ gb395))
     have n8_:=Zz.mk ((by rw [hg];exact Nat.ne_of_gt (blk_lt BK386.out):gb395 ≠ gb386))
     have n9_:=Zz.mk ((by rw [hg];exact Nat.ne_of_lt (blk_lt BK387.out):gb387 ≠ gb395))
     have n10_:=Zz.mk ((by rw [hg];exact Nat.ne_of_gt (blk_lt BK387.out):gb395 ≠ gb387))
     revert n0_ n1_ n2_ n3_ n4_ n5_ n6_ n7_ n8_ n9_ n10_
     clear HO390 BK386 BK387 HB
     intro HO390 BK386 BK387 HB BK395 GW395 GE395 NB386_395 NB395_386 NB387_395 NB395_387
     clear hb hbox hg
     refine hK.out _ _ ((bC BK386.out 0).trans rfl) (fun hHeld=>?_)
     clear hK K
     refine norm_ (a':=?_) ?_ ?_
     rotate_left
     ·show Act.put _ (some 5) _=_
      simp only [Act.put,List.setIfInBounds_toArray,List.set_cons_zero,List.set_cons_succ,i64_w,i32_w]
      rfl
     refine two_ (i:=4) (j:=6) (Ni:=some 20) (Nj:=none) #[true,true,true,true,true,true,false,false] #[true,true,true,true,false,true,true,false] rfl rfl rfl rfl (two_of HT_.out (by kernel_rfl)) (by decide) (by decide) (fun K hK=>?_) (fun K hK=>?_)
     ·skip
      refine Kd.R_make_step (Kd.int .i64) _ 3 (by rfl) (N:=20) rfl 43 _ _ rfl (l0_0.length:Int) rfl rfl Try.underlying43 (.int .i64 0) 8 info3 rfl (by decide) (by omega) 0 (ok:=fun _=>True) (okp:=fun _=>True) rfl (fun _ hk=>hk) trivial (of_decide_eq_true (by first|(with_reducible assumption)|assumption)) (Nat.le_trans (Nat.mul_le_mul_right _ (of_decide_eq_true (by first|(with_reducible assumption)|assumption):(l0_0.length:Int).toNat≤35184372088832)) (by omega)) (Below.refl _ _) (Nat.le_refl _) ?_
      intro v393 w12 ho13 hb hg_ hnew_
      clear hg_ hnew_
      (first|rw [← Ny392.out] at ho13|(simp only [Int.reduceToNat] at ho13;rw [← Ny392.out] at ho13))
      have n0_:=Zz.mk (Kd.R_below HO390.out hb)
      have n1_:=Zz.mk (Kd.R_lower ho13 (qZ HB.out))
      have n2_:=Zz.mk (bB BK386.out hb)
      have n3_:=Zz.mk (bB BK387.out hb)
      have n4_:=Zz.mk (bB BK395.out hb)
      have n5_:=Zz.mk (qP HB.out hb)
      revert n0_ n1_ n2_ n3_ n4_ n5_
      clear HO390 BK386 BK387 BK395 HB
      intro HO390 HO394 BK386 BK387 BK395 HB
      clear hb ho13
      refine hK.out _ _ ((bC BK386.out 0).trans rfl) (fun hHeld=>?_)
      clear hK K
      refine norm_ (a':=?_) ?_ ?_
      rotate_left
      ·show Act.put _ (some 20) _=_
       simp only [Act.put,List.setIfInBounds_toArray,List.set_cons_zero,List.set_cons_succ,i64_w,i32_w]
       rfl
      refine one_ (i:=6) (N:=none) #[true,true,true,true,true,true,true,false] rfl rfl (one_of HT_.out (by kernel_rfl)) (by decide) (fun K hK=>?_)
      have hs14:w12.cell? ⟨gb395,0,none⟩=some (.slice none 0 0):=(bC BK395.out 0).trans rfl
      have hfs14:=bF BK395.out 0
      have hns14_0:=NB386_395.out
      have hns14_1:=NB387_395.out
      have hms14_0:=NB395_386.out
      have hms14_1:=NB395_387.out
      refine skip_ (w1:=?_) (by rfl) rfl ?_ ?_
      rotate_left
      ·go_simp
       rfl
      refine hK.out _ _ (((cell_far (p:=⟨gb395,_,none⟩) NB386_395.out _).trans (hHeld))) (fun hHeld=>?_)
      clear hK K
      exact norm_ (by simp only [putAll,Act.put,List.setIfInBounds_toArray,List.set_cons_zero,List.set_cons_succ]) (hCont (v393,gb395) _ ⟨hHeld,(Kd.R_mono (R_same_ (Kd.R_far (p:=⟨gb395,0,none⟩) (Kd.R_types HO390.out BK395.out (by decide)) (fun _ hk=>hk.2) (.slice none 0 0)) rfl) (fun _ hk=>trivial)),(Kd.R_mono (R_same_ (Kd.R_far (p:=⟨gb395,0,none⟩) (Kd.R_types HO394.out BK395.out (by decide)) (fun _ hk=>hk.2) (.slice none 0 0)) rfl) (fun _ hk=>trivial)),(by (with_reducible repeat first|apply bN|apply bD|apply bA);refine blk_far ?_ NB386_395.out _;(with_reducible repeat first|apply bN|apply bD|apply bA);exact BK386.out),(by (with_reducible repeat first|apply bN|apply bD|apply bA);refine blk_far ?_ NB387_395.out _;(with_reducible repeat first|apply bN|apply bD|apply bA);exact BK387.out),(by (with_reducible repeat first|apply bN|apply bD|apply bA);refine blk_put (cs:=#[.slice none 0 0]) ?_ 0 _ rfl;(with_reducible repeat first|apply bN|apply bD|apply bA);exact BK395.out),GW395.out,GE395.out,NB386_395.out,NB395_386.out,NB387_395.out,NB395_387.out,(by repeat (first|(with_reducible first|exact HB.out|apply qA|apply qN|apply q1_|refine qS ?_ GE386.out|refine qS ?_ GE387.out|refine qS ?_ GE395.out)|exact HB.out))⟩)
     ·skip
      have hs12:w11.cell? ⟨gb395,0,none⟩=some (.slice none 0 0):=(bC BK395.out 0).trans rfl
      have hfs12:=bF BK395.out 0
      have hns12_0:=NB386_395.out
      have hns12_1:=NB387_395.out
      have hms12_0:=NB395_386.out
      have hms12_1:=NB395_387.out
      refine skip_ (w1:=?_) (by rfl) rfl ?_ ?_
      rotate_left
      ·go_simp
       rfl
      refine hK.out _ _ (((cell_far (p:=⟨gb395,_,none⟩) NB386_395.out _).trans (hHeld))) (fun hHeld=>?_)
      clear hK K
      refine one_ (i:=4) (N:=some 20) #[true,true,true,true,true,true,true,false] rfl rfl (one_of HT_.out (by kernel_rfl)) (by decide) (fun K hK=>?_)
      refine Kd.R_make_step (Kd.int .i64) _ 3 (by rfl) (N:=20) rfl 43 _ _ rfl (l0_0.length:Int) rfl rfl Try.underlying43 (.int .i64 0) 8 info3 rfl (by decide) (by omega) 0 (ok:=fun _=>True) (okp:=fun _=>True) rfl (fun _ hk=>hk) trivial (of_decide_eq_true (by first|(with_reducible assumption)|assumption)) (Nat.le_trans (Nat.mul_le_mul_right _ (of_decide_eq_true (by first|(with_reducible assumption)|assumption):(l0_0.length:Int).toNat≤35184372088832)) (by omega)) (Below.refl _ _) (Nat.le_refl _) ?_
      intro v393 w13 ho14 hb hg_ hnew_
      clear hg_ hnew_
      (first|rw [← Ny392.out] at ho14|(simp only [Int.reduceToNat] at ho14;rw [← Ny392.out] at ho14))
      have n0_:=Zz.mk (Kd.R_below ((Kd.R_mono (R_same_ (Kd.R_far (p:=⟨gb395,0,none⟩) (Kd.R_types HO390.out BK395.out (by decide)) (fun _ hk=>hk.2) (.slice none 0 0)) rfl) (fun _ h_=>h_.1))) hb)
      have n1_:=Zz.mk (Kd.R_lower ho14 (qZ (by repeat (first|(with_reducible first|exact HB.out|apply qA|apply qN|apply q1_|refine qS ?_ GE386.out|refine qS ?_ GE387.out|refine qS ?_ GE395.out)|exact HB.out))))
      have n2_:=Zz.mk (bB (g:=gb386) (o:=.cells #[.slice A0_0 l0_0.length c0_0] 24 (0,0)) (by (with_reducible repeat first|apply bN|apply bD|apply bA);refine blk_far ?_ NB386_395.out _;(with_reducible repeat first|apply bN|apply bD|apply bA);exact BK386.out) hb)
      have n3_:=Zz.mk (bB (g:=gb387) (o:=.cells #[.slice none 0 0] 36 (0,0)) (by (with_reducible repeat first|apply bN|apply bD|apply bA);refine blk_far ?_ NB387_395.out _;(with_reducible repeat first|apply bN|apply bD|apply bA);exact BK387.out) hb)
      have n4_:=Zz.mk (bB (g:=gb395) (o:=.cells #[.slice none 0 0] 36 (0,0)) (by (with_reducible repeat first|apply bN|apply bD|apply bA);refine blk_put (cs:=#[.slice none 0 0]) ?_ 0 _ rfl;(with_reducible repeat first|apply bN|apply bD|apply bA);exact BK395.out) hb)
      have n5_:=Zz.mk (qP (by repeat (first|(with_reducible first|exact HB.out|apply qA|apply qN|apply q1_|refine qS ?_ GE386.out|refine qS ?_ GE387.out|refine qS ?_ GE395.out)|exact HB.out)) hb)
      revert n0_ n1_ n2_ n3_ n4_ n5_
      clear HO390 BK386 BK387 BK395 HB
      intro HO390 HO394 BK386 BK387 BK395 HB
      clear hb ho14
      refine hK.out _ _ ((bC BK386.out 0).trans rfl) (fun hHeld=>?_)
      clear hK K
      refine norm_ (a':=?_) ?_ ?_
      rotate_left
      ·show Act.put _ (some 20) _=_
       simp only [Act.put,List.setIfInBounds_toArray,List.set_cons_zero,List.set_cons_succ,i64_w,i32_w]
       rfl
      exact norm_ (by simp only [putAll,Act.put,List.setIfInBounds_toArray,List.set_cons_zero,List.set_cons_succ]) (hCont (v393,gb395) _ ⟨hHeld,HO390.out,HO394.out,BK386.out,BK387.out,BK395.out,GW395.out,GE395.out,NB386_395.out,NB395_386.out,NB387_395.out,NB395_387.out,HB.out⟩)
   rintro ⟨v393,gb395⟩ w15 ⟨hS_,h0_,h1_,h2_,h3_,h4_,h5_,h6_,h7_,h8_,h9_,h10_,h11_⟩
   have n0_:Zz (Kd.R Kd.string 9 w15 w.heap.size (fun _=>True) v389 t388):=⟨h0_⟩
   have n1_:Zz (Kd.R (Kd.int .i64) 3 w15 w.heap.size (fun _=>True) v393 y392):=⟨h1_⟩
   have n2_:Zz (w15.heap[gb386]?=some (.cells #[.slice A0_0 l0_0.length c0_0] 24 (0,0))):=⟨h2_⟩
   have n3_:Zz (w15.heap[gb387]?=some (.cells #[.slice none 0 0] 36 (0,0))):=⟨h3_⟩
   have n4_:Zz (w15.heap[gb395]?=some (.cells #[.slice none 0 0] 36 (0,0))):=⟨h4_⟩
   have n5_:Zz (w.heap.size≤gb395):=⟨h5_⟩
   have n6_:Zz (w.heap.size≤gb395):=⟨h6_⟩
   have n7_:Zz (gb386 ≠ gb395):=⟨h7_⟩
   have n8_:Zz (gb395 ≠ gb386):=⟨h8_⟩
   have n9_:Zz (gb387 ≠ gb395):=⟨h9_⟩
   have n10_:Zz (gb395 ≠ gb387):=⟨h10_⟩
   have n11_:Zz (Below w.heap.size w w15):=⟨h11_⟩
   clear HO390
   clear BK386
   clear BK387
   clear HB
   clear h0_ h1_ h2_ h3_ h4_ h5_ h6_ h7_ h8_ h9_ h10_ h11_
   have HO390:=n0_
   have HO394:=n1_
   have BK386:=n2_
   have BK387:=n3_
   have BK395:=n4_
   have GW395:=n5_
   have GE395:=n6_
   have NB386_395:=n7_
   have NB395_386:=n8_
   have NB387_395:=n9_
   have NB395_387:=n10_
   have HB:=n11_
   clear n0_ n1_ n2_ n3_ n4_ n5_ n6_ n7_ n8_ n9_ n10_ n11_
   have hHeld:w15.cell? ⟨gb386,0,none⟩=some (.slice A0_0 l0_0.length c0_0):=hS_
   refine norm_ (a':=?_) ?_ ?_
   rotate_left
   ·simp only [putAll,Act.put,List.setIfInBounds_toArray,List.set_cons_zero,List.set_cons_succ]
    rfl
   refine pure_ (i:=7) (N:=some 6) (v:=?_) (a':=?_) #[true,true,true,true,true,true,true,true] rfl rfl (any_of HT_.out (by kernel_rfl)) (fun _ _ _ h=>h) (Or.inl ⟨by rfl,?_⟩) ?_ ?_
   rotate_left
   ·intro w'
    go_simp
    with_reducible rfl
   rotate_left
   ·simp only [Act.put,List.setIfInBounds_toArray,List.set_cons_zero,List.set_cons_succ,i64_w,i32_w]
    rfl
   refine done_ (done_of HT_.out (by kernel_rfl)) ?_
   have hnb16:=NB386_395.out
   have hnc16:=NB395_386.out
   have hcz17_0:w15.cell? ⟨gb386,0,none⟩=some (.slice A0_0 l0_0.length c0_0):=(bC BK386.out 0).trans rfl
   have hfz17_0:=bF BK386.out 0
   try go_wp2
   go_loopg [24] k (fun kq v24 w'=>∃ (x6_1:List Int) (x24_1:Int) (x396000_1:List (S69)) (u396000:Value),v24=.int .i64 x24_1∧Zz (impl_Trie_press.l0 kq t388 x6_1 l0_0 (l0_0.length:Int) x24_1 l0_0 x396000_1=some r)∧Zz (kq≤k)∧Zz (Kd.R Kd.string 9 w' w.heap.size (fun _=>True) v389 t388)∧Zz (Kd.R (Kd.int .i64) 3 w' w.heap.size (fun _=>True) v393 x6_1)∧Zz (Kd.R k69 69 w' w.heap.size (fun _=>True) u396000 x396000_1)∧Zz (w'.heap[gb386]?=some (.cells #[(.slice A0_0 l0_0.length c0_0)] 24 (0,0)))∧Zz (w'.heap[gb387]?=some (.cells #[(.slice none 0 0)] 36 (0,0)))∧Zz (w'.heap[gb395]?=some (.cells #[u396000] 36 (0,0)))∧Zz (Below w.heap.size w w'))
   case atStart=>exact ⟨(y392),(0),(([]:List (S69))),(.slice none 0 0),(by first|rfl|(simp;done)|(simp [*];done)),H',⟨Nat.le_refl _⟩,⟨by (with_reducible repeat first|apply Kd.R_alloc|apply Kd.R_drewN|apply Kd.R_drew);exact HO390.out⟩,⟨by (with_reducible repeat first|apply Kd.R_alloc|apply Kd.R_drewN|apply Kd.R_drew);exact HO394.out⟩,⟨by first|exact Kd.R_nil _ _ _ _ _|exact Kd.N_nil _ _ _ _ _|exact Kd.V_nil _ _ _ _ _|exact Kd.Q_nil _ _ _ _ _|exact Kd.S_nil _ _ _ _ _⟩,⟨by (with_reducible repeat first|apply bN|apply bD|apply bA);exact BK386.out⟩,⟨by (with_reducible repeat first|apply bN|apply bD|apply bA);exact BK387.out⟩,⟨by (with_reducible repeat first|apply bN|apply bD|apply bA);exact BK395.out⟩,⟨by repeat (first|(with_reducible first|exact HB.out|apply qA|apply qN|apply q1_|refine qS ?_ GE386.out|refine qS ?_ GE387.out|refine qS ?_ GE395.out)|exact HB.out)⟩⟩
   case round =>
    clear H'
    try clear c1
    try clear c2
    try clear p2
    try clear c3
    try clear c3b0
    try clear c3b1
    try clear c4
    try clear c4b0
    try clear c4b1
    try clear c7
    try clear c16
    try clear hcz17_0
    try clear hcz8_0
    try clear hfz17_0
    try clear hfz8_0
    obtain ⟨x6_1,x24_1,x396000_1,u396000,rfl,HA,HK1,HO_3,HO_6,HO_396000,BK386,BK387,BK395,HB⟩:=hrel
    cases gk with
    | zero=>exact absurd HA.out (by simp [impl_Trie_press.l0])
    | succ k1 =>
     have H:=HA.out
     clear HA
     simp only [impl_Trie_press.l0] at H
     by_cases c18:x24_1<(l0_0.length:Int)
     ·rw [if_pos c18] at H
      have c18b0:decide (x24_1<(l0_0.length:Int))=true:=decide_eq_true c18
      clear c18
      by_cases c19:0≤x24_1
      ·rw [if_pos c19] at H
       have c19b0:decide (0≤x24_1)=true:=decide_eq_true c19
       clear c19
       by_cases c20:x24_1<(l0_0.length:Int)
       ·rw [if_pos c20] at H
        have c20b0:decide (x24_1<(l0_0.length:Int))=true:=decide_eq_true c20
        clear c20
        replace H:=Option.bind_eq_some_iff.mp H
        obtain ⟨t398,A210,H⟩:=H
        replace H:(if t398=true then (if x24_1 > 0 then (impl_Trie_press.l1 k1 t388 x6_1 x24_1 ((rT l0_0 x24_1).f1) l0_0 (l0_0.length:Int) x24_1 l0_0 x396000_1 (⟨#[]⟩:ByteArray) (-1) ((rT l0_0 x24_1).f2)) else (if x24_1<(x6_1.length:Int) then (if x396000_1.length<4398046511104 then (impl_Trie_press.l0 k1 t388 (x6_1.set (x24_1:Int).toNat (x396000_1.length:Int)) l0_0 (l0_0.length:Int) (wrap64 (x24_1+1)) l0_0 (x396000_1 ++ [(⟨(⟨#[]⟩:ByteArray),(-1),(rT l0_0 x24_1).f2⟩:S69)])) else (none)) else (none))) else (impl_Trie_press.l0 k1 t388 x6_1 l0_0 (l0_0.length:Int) (wrap64 (x24_1+1)) l0_0 x396000_1))=some r:=H
        have A21:=Zz.mk A210
        clear A210
        by_cases c22:t398=true
        ·subst c22
         have H1:(if x24_1 > 0 then (impl_Trie_press.l1 k1 t388 x6_1 x24_1 ((rT l0_0 x24_1).f1) l0_0 (l0_0.length:Int) x24_1 l0_0 x396000_1 (⟨#[]⟩:ByteArray) (-1) ((rT l0_0 x24_1).f2)) else (if x24_1<(x6_1.length:Int) then (if x396000_1.length<4398046511104 then (impl_Trie_press.l0 k1 t388 (x6_1.set (x24_1:Int).toNat (x396000_1.length:Int)) l0_0 (l0_0.length:Int) (wrap64 (x24_1+1)) l0_0 (x396000_1 ++ [(⟨(⟨#[]⟩:ByteArray),(-1),(rT l0_0 x24_1).f2⟩:S69)])) else (none)) else (none)))=some r:=by rw [if_pos rfl] at H;exact H
         clear H
         have H:=H1
         clear H1
         by_cases c23:x24_1 > 0
         ·rw [if_pos c23] at H
          have c23b0:decide (0<x24_1)=true:=decide_eq_true c23
          clear c23
          have H':=Zz.mk H
          clear H
          have p396:0≤(x24_1:Int):=of_decide_eq_true (by first|(with_reducible assumption)|assumption)
          have q396:x24_1<(l0_0.length:Int):=of_decide_eq_true (by first|(with_reducible assumption)|assumption)
          obtain ⟨ad396,e396,hx396_0,hx396_1,hx396_2⟩:=at_T62 HR0_0.out x24_1 p396 q396
          cases e396
          replace hx396_0:=(HB.out.cell (World.block_lt_of_cell? w _ hx396_0)).trans hx396_0
          replace hx396_1:=(HB.out.cell (World.block_lt_of_cell? w _ hx396_1)).trans hx396_1
          replace hx396_2:=(HB.out.cell (World.block_lt_of_cell? w _ hx396_2)).trans hx396_2
          replace p396:=eq_true p396
          replace q396:=eq_true q396
          go_wp2_with (first|((with_reducible refine gate_dst (N:=8) rfl ?_);refine box_event ?hg (N:=8) ?hd (cs:=#[.int .i64 0,.int .i64 0,.bool false]) (t:=62) ?hr ?_;(case hd=>rfl);(case hg=>rfl);(case hr=>first|(go_simp;done)|(go_simp;rfl));intro gb397 hg w24 hbox hb;have n0_:=Zz.mk (Kd.R_below (by (with_reducible repeat first|apply Kd.R_alloc|apply Kd.R_drewN|apply Kd.R_drew);exact HO_3.out) hb);have n1_:=Zz.mk (Kd.R_below (by (with_reducible repeat first|apply Kd.R_alloc|apply Kd.R_drewN|apply Kd.R_drew);exact HO_6.out) hb);have n2_:=Zz.mk (Kd.R_below (by (with_reducible repeat first|apply Kd.R_alloc|apply Kd.R_drewN|apply Kd.R_drew);exact HO_396000.out) hb);have n3_:=Zz.mk (bB (g:=gb386) (o:=.cells #[.slice (some ad396) l0_0.length c0_0] 24 (0,0)) (by (with_reducible repeat first|apply bN|apply bD|apply bA);exact BK386.out) hb);have n4_:=Zz.mk (bB (g:=gb387) (o:=.cells #[.slice none 0 0] 36 (0,0)) (by (with_reducible repeat first|apply bN|apply bD|apply bA);exact BK387.out) hb);have n5_:=Zz.mk (bB (g:=gb395) (o:=.cells #[u396000] 36 (0,0)) (by (with_reducible repeat first|apply bN|apply bD|apply bA);exact BK395.out) hb);have n6_:=Zz.mk (qP (by repeat (first|(with_reducible first|exact HB.out|apply qA|apply qN|apply q1_|refine qS ?_ GE386.out|refine qS ?_ GE387.out|refine qS ?_ GE395.out)|exact HB.out)) hb);have n7_:=Zz.mk (hbox);have n8_:=Zz.mk ((by rw [hg];exact (qZ (by repeat (first|(with_reducible first|exact HB.out|apply qA|apply qN|apply q1_|refine qS ?_ GE386.out|refine qS ?_ GE387.out|refine qS ?_ GE395.out)|exact HB.out))):w.heap.size≤gb397));have n9_:=Zz.mk ((by rw [hg];exact (qZ (by repeat (first|(with_reducible first|exact HB.out|apply qA|apply qN|apply q1_|refine qS ?_ GE386.out|refine qS ?_ GE387.out|refine qS ?_ GE395.out)|exact HB.out))):w.heap.size≤gb397));have n10_:=Zz.mk ((by rw [hg];exact Nat.ne_of_lt (blk_lt (g:=gb386) (o:=.cells #[.slice (some ad396) l0_0.length c0_0] 24 (0,0)) (by (with_reducible repeat first|apply bN|apply bD|apply bA);exact BK386.out)):gb386 ≠ gb397));have n11_:=Zz.mk ((by rw [hg];exact Nat.ne_of_gt (blk_lt (g:=gb386) (o:=.cells #[.slice (some ad396) l0_0.length c0_0] 24 (0,0)) (by (with_reducible repeat first|apply bN|apply bD|apply bA);exact BK386.out)):gb397 ≠ gb386));have n12_:=Zz.mk ((by rw [hg];exact Nat.ne_of_lt (blk_lt (g:=gb387) (o:=.cells #[.slice none 0 0] 36 (0,0)) (by (with_reducible repeat first|apply bN|apply bD|apply bA);exact BK387.out)):gb387 ≠ gb397));have n13_:=Zz.mk ((by rw [hg];exact Nat.ne_of_gt (blk_lt (g:=gb387) (o:=.cells #[.slice none 0 0] 36 (0,0)) (by (with_reducible repeat first|apply bN|apply bD|apply bA);exact BK387.out)):gb397 ≠ gb387));have n14_:=Zz.mk ((by rw [hg];exact Nat.ne_of_lt (blk_lt (g:=gb395) (o:=.cells #[u396000] 36 (0,0)) (by (with_reducible repeat first|apply bN|apply bD|apply bA);exact BK395.out)):gb395 ≠ gb397));have n15_:=Zz.mk ((by rw [hg];exact Nat.ne_of_gt (blk_lt (g:=gb395) (o:=.cells #[u396000] 36 (0,0)) (by (with_reducible repeat first|apply bN|apply bD|apply bA);exact BK395.out)):gb397 ≠ gb395));clear HO_3;clear HO_6;clear HO_396000;clear BK386;clear BK387;clear BK395;clear HB;have HO_3:=n0_;have HO_6:=n1_;have HO_396000:=n2_;have BK386:=n3_;have BK387:=n4_;have BK395:=n5_;have HB:=n6_;have BK397:=n7_;have GW397:=n8_;have GE397:=n9_;have NB386_397:=n10_;have NB397_386:=n11_;have NB387_397:=n12_;have NB397_387:=n13_;have NB395_397:=n14_;have NB397_395:=n15_;clear n0_ n1_ n2_ n3_ n4_ n5_ n6_ n7_ n8_ n9_ n10_ n11_ n12_ n13_ n14_ n15_;clear hb hbox hg;have hnb25:=NB397_386.out;have hnc25:=NB386_397.out;have hnb26:=NB397_387.out;have hnc26:=NB387_397.out;have hnb27:=NB397_395.out;have hnc27:=NB395_397.out;have hcz28_0:w24.cell? ⟨gb397,0,none⟩=some (.int .i64 0):=(bC BK397.out 0).trans rfl;have hcz28_1:w24.cell? ⟨gb397,1,none⟩=some (.int .i64 0):=(bC BK397.out 1).trans rfl;have hcz28_2:w24.cell? ⟨gb397,2,none⟩=some (.bool false):=(bC BK397.out 2).trans rfl;have hfz28_0:=bF BK397.out 0;have hfz28_1:=bF BK397.out 1;have hfz28_2:=bF BK397.out 2;have hnb29:=NB386_387.out;have hnc29:=NB387_386.out;have hnb30:=NB386_395.out;have hnc30:=NB395_386.out;have hcz31_0:w24.cell? ⟨gb386,0,none⟩=some (.slice (some ad396) l0_0.length c0_0):=(bC BK386.out 0).trans rfl;have hfz31_0:=bF BK386.out 0)|((with_reducible refine gate_callee (f:=53) rfl ?_);refine goesL_ (some 31) rfl rfl Try.func53 (by kernel_rfl) rfl #[.agg #[.slice (some ad396) l0_0.length c0_0],.int .i64 x24_1] rfl (by (try simp only [List.map_toArray,List.map_cons,List.map_nil]);first|done|rfl|(simp only [List.length_drop,List.length_take];rfl)) ?_;(with_reducible refine (impl_Trie_stays.calls k1 _ _ l0_0 x24_1 true _ ?side1 ?side2 A21.out).mono ?_);(case side1=>exact Kd.C_below HR0_0.out (by repeat (first|(with_reducible first|exact HB.out|apply qA|apply qN|apply q1_|refine qS ?_ GE386.out|refine qS ?_ GE387.out|refine qS ?_ GE395.out|refine qS ?_ GE397.out)|exact HB.out)));(case side2=>exact HC0_0.out);rintro e w32 ⟨rfl,hb⟩;refine ⟨_,rfl,?_⟩;have n0_:=Zz.mk (Kd.R_below (by (with_reducible repeat first|apply Kd.R_alloc|apply Kd.R_drewN|apply Kd.R_drew);exact (Kd.R_mono (R_same_ (Kd.R_far (p:=⟨gb397,2,none⟩) (Kd.R_far (p:=⟨gb397,1,none⟩) (Kd.R_far (p:=⟨gb397,0,none⟩) (Kd.R_types HO_3.out BK397.out (by decide)) (fun _ hk=>hk.2) (.int .i64 ((rT l0_0 x24_1).f0))) (fun _ hk=>hk.2) (.int .i64 ((rT l0_0 x24_1).f1))) (fun _ hk=>hk.2) (.bool ((rT l0_0 x24_1).f2))) rfl) (fun _ h_=>h_.1))) hb);have n1_:=Zz.mk (Kd.R_below (by (with_reducible repeat first|apply Kd.R_alloc|apply Kd.R_drewN|apply Kd.R_drew);exact (Kd.R_mono (R_same_ (Kd.R_far (p:=⟨gb397,2,none⟩) (Kd.R_far (p:=⟨gb397,1,none⟩) (Kd.R_far (p:=⟨gb397,0,none⟩) (Kd.R_types HO_6.out BK397.out (by decide)) (fun _ hk=>hk.2) (.int .i64 ((rT l0_0 x24_1).f0))) (fun _ hk=>hk.2) (.int .i64 ((rT l0_0 x24_1).f1))) (fun _ hk=>hk.2) (.bool ((rT l0_0 x24_1).f2))) rfl) (fun _ h_=>h_.1))) hb);have n2_:=Zz.mk (Kd.R_below (by (with_reducible repeat first|apply Kd.R_alloc|apply Kd.R_drewN|apply Kd.R_drew);exact (Kd.R_mono (R_same_ (Kd.R_far (p:=⟨gb397,2,none⟩) (Kd.R_far (p:=⟨gb397,1,none⟩) (Kd.R_far (p:=⟨gb397,0,none⟩) (Kd.R_types HO_396000.out BK397.out (by decide)) (fun _ hk=>hk.2) (.int .i64 ((rT l0_0 x24_1).f0))) (fun _ hk=>hk.2) (.int .i64 ((rT l0_0 x24_1).f1))) (fun _ hk=>hk.2) (.bool ((rT l0_0 x24_1).f2))) rfl) (fun _ h_=>h_.1))) hb);have n3_:=Zz.mk (bB (g:=gb386) (o:=.cells #[.slice (some ad396) l0_0.length c0_0] 24 (0,0)) (by (with_reducible repeat first|apply bN|apply bD|apply bA);refine blk_far ?_ NB386_397.out _;(with_reducible repeat first|apply bN|apply bD|apply bA);refine blk_far ?_ NB386_397.out _;(with_reducible repeat first|apply bN|apply bD|apply bA);refine blk_far ?_ NB386_397.out _;(with_reducible repeat first|apply bN|apply bD|apply bA);exact BK386.out) hb);have n4_:=Zz.mk (bB (g:=gb387) (o:=.cells #[.slice none 0 0] 36 (0,0)) (by (with_reducible repeat first|apply bN|apply bD|apply bA);refine blk_far ?_ NB387_397.out _;(with_reducible repeat first|apply bN|apply bD|apply bA);refine blk_far ?_ NB387_397.out _;(with_reducible repeat first|apply bN|apply bD|apply bA);refine blk_far ?_ NB387_397.out _;(with_reducible repeat first|apply bN|apply bD|apply bA);exact BK387.out) hb);have n5_:=Zz.mk (bB (g:=gb395) (o:=.cells #[u396000] 36 (0,0)) (by (with_reducible repeat first|apply bN|apply bD|apply bA);refine blk_far ?_ NB395_397.out _;(with_reducible repeat first|apply bN|apply bD|apply bA);refine blk_far ?_ NB395_397.out _;(with_reducible repeat first|apply bN|apply bD|apply bA);refine blk_far ?_ NB395_397.out _;(with_reducible repeat first|apply bN|apply bD|apply bA);exact BK395.out) hb);have n6_:=Zz.mk (bB (g:=gb397) (o:=.cells #[.int .i64 ((rT l0_0 x24_1).f0),.int .i64 ((rT l0_0 x24_1).f1),.bool ((rT l0_0 x24_1).f2)] 62 (0,0)) (by (with_reducible repeat first|apply bN|apply bD|apply bA);refine blk_put (cs:=#[.int .i64 ((rT l0_0 x24_1).f0),.int .i64 ((rT l0_0 x24_1).f1),.bool false]) ?_ 2 _ rfl;(with_reducible repeat first|apply bN|apply bD|apply bA);refine blk_put (cs:=#[.int .i64 ((rT l0_0 x24_1).f0),.int .i64 0,.bool false]) ?_ 1 _ rfl;(with_reducible repeat first|apply bN|apply bD|apply bA);refine blk_put (cs:=#[.int .i64 0,.int .i64 0,.bool false]) ?_ 0 _ rfl;(with_reducible repeat first|apply bN|apply bD|apply bA);exact BK397.out) hb);have n7_:=Zz.mk (qP (by repeat (first|(with_reducible first|exact HB.out|apply qA|apply qN|apply q1_|refine qS ?_ GE386.out|refine qS ?_ GE387.out|refine qS ?_ GE395.out|refine qS ?_ GE397.out)|exact HB.out)) hb);clear HO_3;clear HO_6;clear HO_396000;clear BK386;clear BK387;clear BK395;clear BK397;clear HB;have HO_3:=n0_;have HO_6:=n1_;have HO_396000:=n2_;have BK386:=n3_;have BK387:=n4_;have BK395:=n5_;have BK397:=n6_;have HB:=n7_;clear n0_ n1_ n2_ n3_ n4_ n5_ n6_ n7_;(try clear hb);(try clear hb2);(try clear hk);(try clear hi);have hcz33_0:w32.cell? ⟨gb397,0,none⟩=some (.int .i64 ((rT l0_0 x24_1).f0)):=(bC BK397.out 0).trans rfl;have hcz33_1:w32.cell? ⟨gb397,1,none⟩=some (.int .i64 ((rT l0_0 x24_1).f1)):=(bC BK397.out 1).trans rfl;have hcz33_2:w32.cell? ⟨gb397,2,none⟩=some (.bool ((rT l0_0 x24_1).f2)):=(bC BK397.out 2).trans rfl;have hfz33_0:=bF BK397.out 0;have hfz33_1:=bF BK397.out 1;have hfz33_2:=bF BK397.out 2)|((with_reducible refine gate_dst (N:=9) rfl ?_);refine box_event ?hg (N:=9) ?hd (cs:=#[.string (⟨#[]⟩:ByteArray),.int .i64 0,.bool false]) (t:=69) ?hr ?_;(case hd=>rfl);(case hg=>rfl);(case hr=>first|(go_simp;done)|(go_simp;rfl));intro gb399 hg w34 hbox hb;have n0_:=Zz.mk (Kd.R_below (by (with_reducible repeat first|apply Kd.R_alloc|apply Kd.R_drewN|apply Kd.R_drew);exact HO_3.out) hb);have n1_:=Zz.mk (Kd.R_below (by (with_reducible repeat first|apply Kd.R_alloc|apply Kd.R_drewN|apply Kd.R_drew);exact HO_6.out) hb);have n2_:=Zz.mk (Kd.R_below (Kd.R_elderB (by (with_reducible repeat first|apply Kd.R_alloc|apply Kd.R_drewN|apply Kd.R_drew);exact HO_396000.out) gb399 (Nat.le_of_eq hg.symm)) hb);have n3_:=Zz.mk (bB (g:=gb386) (o:=.cells #[.slice (some ad396) l0_0.length c0_0] 24 (0,0)) (by (with_reducible repeat first|apply bN|apply bD|apply bA);exact BK386.out) hb);have n4_:=Zz.mk (bB (g:=gb387) (o:=.cells #[.slice none 0 0] 36 (0,0)) (by (with_reducible repeat first|apply bN|apply bD|apply bA);exact BK387.out) hb);have n5_:=Zz.mk (bB (g:=gb395) (o:=.cells #[u396000] 36 (0,0)) (by (with_reducible repeat first|apply bN|apply bD|apply bA);exact BK395.out) hb);have n6_:=Zz.mk (bB (g:=gb397) (o:=.cells #[.int .i64 ((rT l0_0 x24_1).f0),.int .i64 ((rT l0_0 x24_1).f1),.bool ((rT l0_0 x24_1).f2)] 62 (0,0)) (by (with_reducible repeat first|apply bN|apply bD|apply bA);exact BK397.out) hb);have n7_:=Zz.mk (qP (by repeat (first|(with_reducible first|exact HB.out|apply qA|apply qN|apply q1_|refine qS ?_ GE386.out|refine qS ?_ GE387.out|refine qS ?_ GE395.out|refine qS ?_ GE397.out)|exact HB.out)) hb);have n8_:=Zz.mk (hbox);have n9_:=Zz.mk ((by rw [hg];exact (qZ (by repeat (first|(with_reducible first|exact HB.out|apply qA|apply qN|apply q1_|refine qS ?_ GE386.out|refine qS ?_ GE387.out|refine qS ?_ GE395.out|refine qS ?_ GE397.out)|exact HB.out))):w.heap.size≤gb399));have n10_:=Zz.mk ((by rw [hg];exact (qZ (by repeat (first|(with_reducible first|exact HB.out|apply qA|apply qN|apply q1_|refine qS ?_ GE386.out|refine qS ?_ GE387.out|refine qS ?_ GE395.out|refine qS ?_ GE397.out)|exact HB.out))):w.heap.size≤gb399));have n11_:=Zz.mk ((by rw [hg];exact Nat.ne_of_lt (blk_lt (g:=gb386) (o:=.cells #[.slice (some ad396) l0_0.length c0_0] 24 (0,0)) (by (with_reducible repeat first|apply bN|apply bD|apply bA);exact BK386.out)):gb386 ≠ gb399));have n12_:=Zz.mk ((by rw [hg];exact Nat.ne_of_gt (blk_lt (g:=gb386) (o:=.cells #[.slice (some ad396) l0_0.length c0_0] 24 (0,0)) (by (with_reducible repeat first|apply bN|apply bD|apply bA);exact BK386.out)):gb399 ≠ gb386));have n13_:=Zz.mk ((by rw [hg];exact Nat.ne_of_lt (blk_lt (g:=gb387) (o:=.cells #[.slice none 0 0] 36 (0,0)) (by (with_reducible repeat first|apply bN|apply bD|apply bA);exact BK387.out)):gb387 ≠ gb399));have n14_:=Zz.mk ((by rw [hg];exact Nat.ne_of_gt (blk_lt (g:=gb387) (o:=.cells #[.slice none 0 0] 36 (0,0)) (by (with_reducible repeat first|apply bN|apply bD|apply bA);exact BK387.out)):gb399 ≠ gb387));have n15_:=Zz.mk ((by rw [hg];exact Nat.ne_of_lt (blk_lt (g:=gb395) (o:=.cells #[u396000] 36 (0,0)) (by (with_reducible repeat first|apply bN|apply bD|apply bA);exact BK395.out)):gb395 ≠ gb399));have n16_:=Zz.mk ((by rw [hg];exact Nat.ne_of_gt (blk_lt (g:=gb395) (o:=.cells #[u396000] 36 (0,0)) (by (with_reducible repeat first|apply bN|apply bD|apply bA);exact BK395.out)):gb399 ≠ gb395));have n17_:=Zz.mk ((by rw [hg];exact Nat.ne_of_lt (blk_lt (g:=gb397) (o:=.cells #[.int .i64 ((rT l0_0 x24_1).f0),.int .i64 ((rT l0_0 x24_1).f1),.bool ((rT l0_0 x24_1).f2)] 62 (0,0)) (by (with_reducible repeat first|apply bN|apply bD|apply bA);exact BK397.out)):gb397 ≠ gb399));have n18_:=Zz.mk ((by rw [hg];exact Nat.ne_of_gt (blk_lt (g:=gb397) (o:=.cells #[.int .i64 ((rT l0_0 x24_1).f0),.int .i64 ((rT l0_0 x24_1).f1),.bool ((rT l0_0 x24_1).f2)] 62 (0,0)) (by (with_reducible repeat first|apply bN|apply bD|apply bA);exact BK397.out)):gb399 ≠ gb397));clear HO_3;clear HO_6;clear HO_396000;clear BK386;clear BK387;clear BK395;clear BK397;clear HB;have HO_3:=n0_;have HO_6:=n1_;have HO_396000:=n2_;have BK386:=n3_;have BK387:=n4_;have BK395:=n5_;have BK397:=n6_;have HB:=n7_;have BK399:=n8_;have GW399:=n9_;have GE399:=n10_;have NB386_399:=n11_;have NB399_386:=n12_;have NB387_399:=n13_;have NB399_387:=n14_;have NB395_399:=n15_;have NB399_395:=n16_;have NB397_399:=n17_;have NB399_397:=n18_;clear n0_ n1_ n2_ n3_ n4_ n5_ n6_ n7_ n8_ n9_ n10_ n11_ n12_ n13_ n14_ n15_ n16_ n17_ n18_;clear hb hbox hg;have hnb35:=NB399_386.out;have hnc35:=NB386_399.out;have hnb36:=NB399_387.out;have hnc36:=NB387_399.out;have hnb37:=NB399_395.out;have hnc37:=NB395_399.out;have hnb38:=NB399_397.out;have hnc38:=NB397_399.out;have hcz39_0:w34.cell? ⟨gb399,0,none⟩=some (.string (⟨#[]⟩:ByteArray)):=(bC BK399.out 0).trans rfl;have hcz39_1:w34.cell? ⟨gb399,1,none⟩=some (.int .i64 0):=(bC BK399.out 1).trans rfl;have hcz39_2:w34.cell? ⟨gb399,2,none⟩=some (.bool false):=(bC BK399.out 2).trans rfl;have hfz39_0:=bF BK399.out 0;have hfz39_1:=bF BK399.out 1;have hfz39_2:=bF BK399.out 2;have hcz40_0:w34.cell? ⟨gb397,0,none⟩=some (.int .i64 ((rT l0_0 x24_1).f0)):=(bC BK397.out 0).trans rfl;have hcz40_1:w34.cell? ⟨gb397,1,none⟩=some (.int .i64 ((rT l0_0 x24_1).f1)):=(bC BK397.out 1).trans rfl;have hcz40_2:w34.cell? ⟨gb397,2,none⟩=some (.bool ((rT l0_0 x24_1).f2)):=(bC BK397.out 2).trans rfl;have hfz40_0:=bF BK397.out 0;have hfz40_1:=bF BK397.out 1;have hfz40_2:=bF BK397.out 2))
          go_loopg [10] k1 (fun kq v10 w'=>∃ (x10_2:Int),v10=.int .i64 x10_2∧Zz (impl_Trie_press.l1 kq t388 x6_1 x24_1 x10_2 l0_0 (l0_0.length:Int) x24_1 l0_0 x396000_1 (⟨#[]⟩:ByteArray) (-1) ((rT l0_0 x24_1).f2)=some r)∧Zz (kq≤k1)∧Zz (Kd.R Kd.string 9 w' w.heap.size (fun _=>True) v389 t388)∧Zz (Kd.R (Kd.int .i64) 3 w' w.heap.size (fun _=>True) v393 x6_1)∧Zz (Kd.R k69 69 w' w.heap.size (fun k_=>k_ ≠ gb399) u396000 x396000_1)∧Zz (w'.heap[gb386]?=some (.cells #[(.slice (some ad396) l0_0.length c0_0)] 24 (0,0)))∧Zz (w'.heap[gb387]?=some (.cells #[(.slice none 0 0)] 36 (0,0)))∧Zz (w'.heap[gb395]?=some (.cells #[u396000] 36 (0,0)))∧Zz (w'.heap[gb397]?=some (.cells #[.int .i64 ((rT l0_0 x24_1).f0),.int .i64 ((rT l0_0 x24_1).f1),.bool ((rT l0_0 x24_1).f2)] 62 (0,0)))∧Zz (w'.heap[gb399]?=some (.cells #[.string (⟨#[]⟩:ByteArray),.int .i64 (-1),.bool ((rT l0_0 x24_1).f2)] 69 (0,0)))∧Zz (Below w.heap.size w w'))
          case atStart=>exact ⟨((rT l0_0 x24_1).f1),(by first|rfl|(simp;done)|(simp [*];done)),H',⟨Nat.le_refl _⟩,⟨by (with_reducible repeat first|apply Kd.R_alloc|apply Kd.R_drewN|apply Kd.R_drew);exact Kd.R_mono (R_same_ (Kd.R_far (p:=⟨gb399,2,none⟩) (Kd.R_far (p:=⟨gb399,1,none⟩) (Kd.R_far (p:=⟨gb399,0,none⟩) (Kd.R_types HO_3.out BK399.out (by decide)) (fun _ hk=>hk.2) (.string (⟨#[]⟩:ByteArray))) (fun _ hk=>hk.2) (.int .i64 (-1))) (fun _ hk=>hk.2) (.bool ((rT l0_0 x24_1).f2))) rfl) (fun _ hk=>trivial)⟩,⟨by (with_reducible repeat first|apply Kd.R_alloc|apply Kd.R_drewN|apply Kd.R_drew);exact Kd.R_mono (R_same_ (Kd.R_far (p:=⟨gb399,2,none⟩) (Kd.R_far (p:=⟨gb399,1,none⟩) (Kd.R_far (p:=⟨gb399,0,none⟩) (Kd.R_types HO_6.out BK399.out (by decide)) (fun _ hk=>hk.2) (.string (⟨#[]⟩:ByteArray))) (fun _ hk=>hk.2) (.int .i64 (-1))) (fun _ hk=>hk.2) (.bool ((rT l0_0 x24_1).f2))) rfl) (fun _ hk=>trivial)⟩,⟨by (with_reducible repeat first|apply Kd.R_alloc|apply Kd.R_drewN|apply Kd.R_drew);exact Kd.R_mono (R_same_ (Kd.R_far (p:=⟨gb399,2,none⟩) (Kd.R_far (p:=⟨gb399,1,none⟩) (Kd.R_far (p:=⟨gb399,0,none⟩) (Kd.R_mono HO_396000.out (fun k_ hk=>(⟨hk,hk.2⟩:_∧k_ ≠ gb399))) (fun _ hk=>hk.2) (.string (⟨#[]⟩:ByteArray))) (fun _ hk=>hk.2) (.int .i64 (-1))) (fun _ hk=>hk.2) (.bool ((rT l0_0 x24_1).f2))) rfl) (fun _ hk=>hk.1.2)⟩,⟨by (with_reducible repeat first|apply bN|apply bD|apply bA);refine blk_far ?_ NB386_399.out _;(with_reducible repeat first|apply bN|apply bD|apply bA);refine blk_far ?_ NB386_399.out _;(with_reducible repeat first|apply bN|apply bD|apply bA);refine blk_far ?_ NB386_399.out _;(with_reducible repeat first|apply bN|apply bD|apply bA);exact BK386.out⟩,⟨by (with_reducible repeat first|apply bN|apply bD|apply bA);refine blk_far ?_ NB387_399.out _;(with_reducible repeat first|apply bN|apply bD|apply bA);refine blk_far ?_ NB387_399.out _;(with_reducible repeat first|apply bN|apply bD|apply bA);refine blk_far ?_ NB387_399.out _;(with_reducible repeat first|apply bN|apply bD|apply bA);exact BK387.out⟩,⟨by (with_reducible repeat first|apply bN|apply bD|apply bA);refine blk_far ?_ NB395_399.out _;(with_reducible repeat first|apply bN|apply bD|apply bA);refine blk_far ?_ NB395_399.out _;(with_reducible repeat first|apply bN|apply bD|apply bA);refine blk_far ?_ NB395_399.out _;(with_reducible repeat first|apply bN|apply bD|apply bA);exact BK395.out⟩,⟨by (with_reducible repeat first|apply bN|apply bD|apply bA);refine blk_far ?_ NB397_399.out _;(with_reducible repeat first|apply bN|apply bD|apply bA);refine blk_far ?_ NB397_399.out _;(with_reducible repeat first|apply bN|apply bD|apply bA);refine blk_far ?_ NB397_399.out _;(with_reducible repeat first|apply bN|apply bD|apply bA);exact BK397.out⟩,⟨by (with_reducible repeat first|apply bN|apply bD|apply bA);refine blk_put (cs:=#[.string (⟨#[]⟩:ByteArray),.int .i64 (-1),.bool false]) ?_ 2 _ rfl;(with_reducible repeat first|apply bN|apply bD|apply bA);refine blk_put (cs:=#[.string (⟨#[]⟩:ByteArray),.int .i64 0,.bool false]) ?_ 1 _ rfl;(with_reducible repeat first|apply bN|apply bD|apply bA);refine blk_put (cs:=#[.string (⟨#[]⟩:ByteArray),.int .i64 0,.bool false]) ?_ 0 _ rfl;(with_reducible repeat first|apply bN|apply bD|apply bA);exact BK399.out⟩,⟨by repeat (first|(with_reducible first|exact HB.out|apply qA|apply qN|apply q1_|refine qS ?_ GE386.out|refine qS ?_ GE387.out|refine qS ?_ GE395.out|refine qS ?_ GE397.out|refine qS ?_ GE399.out)|exact HB.out)⟩⟩
          case round =>
           clear H'
           try clear c1
           try clear c2
           try clear p2
           try clear c3
           try clear c3b0
           try clear c3b1
           try clear p3
           try clear q3
           try clear hx3
           try clear c4
           try clear c4b0
           try clear c4b1
           try clear c5
           try clear p6
           try clear c7
           try clear c16
           try clear c18
           try clear c18b0
           try clear c19
           try clear c19b0
           try clear c20
           try clear c20b0
           try clear c22
           try clear c23
           try clear c23b0
           try clear c25
           try clear c26
           try clear c27
           try clear c28
           try clear c29
           try clear c30
           try clear c35
           try clear c36
           try clear c37
           try clear c38
           try clear p39
           try clear q39
           try clear hx39
           try clear hcz17_0
           try clear hcz28_0
           try clear hcz28_1
           try clear hcz28_2
           try clear hcz31_0
           try clear hcz33_0
           try clear hcz33_1
           try clear hcz33_2
           try clear hcz39_0
           try clear hcz39_1
           try clear hcz39_2
           try clear hcz40_0
           try clear hcz40_1
           try clear hcz40_2
           try clear hcz8_0
           try clear hfz17_0
           try clear hfz28_0
           try clear hfz28_1
           try clear hfz28_2
           try clear hfz31_0
           try clear hfz33_0
           try clear hfz33_1
           try clear hfz33_2
           try clear hfz39_0
           try clear hfz39_1
           try clear hfz39_2
           try clear hfz40_0
           try clear hfz40_1
           try clear hfz40_2
           try clear hfz8_0
           try clear hx396_0
           try clear hx396_1
           try clear hx396_2
           try clear p2
           try clear p396
           try clear q396
           obtain ⟨x10_2,rfl,HA,HK2,HO_3,HO_6,HO_396000,BK386,BK387,BK395,BK397,BK399,HB⟩:=hrel
           cases gk with
           | zero=>exact absurd HA.out (by simp [impl_Trie_press.l1])
           | succ k2 =>
            have H:=HA.out
            clear HA
            simp only [impl_Trie_press.l1] at H
            replace H:=Option.bind_eq_some_iff.mp H
            obtain ⟨t400,A410,H⟩:=H
            replace H:(if t400=true then (if 0≤x24_1 then (if x24_1<(t388.length:Int) then (if 0≤x10_2 then (if x10_2<(t388.length:Int) then (if 0≤((rdOf ByteArray.empty t388 x10_2).size:Int) then (if ((rdOf ByteArray.empty t388 x10_2).size:Int)≤((rdOf ByteArray.empty t388 x24_1).size:Int) then (if x10_2<(x6_1.length:Int) then (if x24_1<(x6_1.length:Int) then (if x396000_1.length<4398046511104 then (impl_Trie_press.l0 k2 t388 (x6_1.set (x24_1:Int).toNat (x396000_1.length:Int)) l0_0 (l0_0.length:Int) (wrap64 (x24_1+1)) l0_0 (x396000_1 ++ [(⟨(rdOf ByteArray.empty t388 x24_1).extract (((rdOf ByteArray.empty t388 x10_2).size:Int):Int).toNat (rdOf ByteArray.empty t388 x24_1).size,rd x6_1 x10_2,((rT l0_0 x24_1).f2)⟩:S69)])) else (none)) else (none)) else (none)) else (none)) else (none)) else (none)) else (none)) else (none)) else (none)) else (if 0≤x10_2 then (if x10_2<(l0_0.length:Int) then (impl_Trie_press.l1 k2 t388 x6_1 x24_1 ((rT l0_0 x10_2).f1) l0_0 (l0_0.length:Int) x24_1 l0_0 x396000_1 (⟨#[]⟩:ByteArray) (-1) ((rT l0_0 x24_1).f2)) else (none)) else (none)))=some r:=H
            have A41:=Zz.mk A410
            clear A410
            by_cases c42:t400=true
            ·subst c42
             have H1:(if 0≤x24_1 then (if x24_1<(t388.length:Int) then (if 0≤x10_2 then (if x10_2<(t388.length:Int) then (if 0≤((rdOf ByteArray.empty t388 x10_2).size:Int) then (if ((rdOf ByteArray.empty t388 x10_2).size:Int)≤((rdOf ByteArray.empty t388 x24_1).size:Int) then (if x10_2<(x6_1.length:Int) then (if x24_1<(x6_1.length:Int) then (if x396000_1.length<4398046511104 then (impl_Trie_press.l0 k2 t388 (x6_1.set (x24_1:Int).toNat (x396000_1.length:Int)) l0_0 (l0_0.length:Int) (wrap64 (x24_1+1)) l0_0 (x396000_1 ++ [(⟨(rdOf ByteArray.empty t388 x24_1).extract (((rdOf ByteArray.empty t388 x10_2).size:Int):Int).toNat (rdOf ByteArray.empty t388 x24_1).size,rd x6_1 x10_2,((rT l0_0 x24_1).f2)⟩:S69)])) else (none)) else (none)) else (none)) else (none)) else (none)) else (none)) else (none)) else (none)) else (none))=some r:=by rw [if_pos rfl] at H;exact H
             clear H
             have H:=H1
             clear H1
             by_cases c43:0≤x24_1
             ·rw [if_pos c43] at H
              have c43b0:decide (0≤x24_1)=true:=decide_eq_true c43
              clear c43
              by_cases c44:x24_1<(t388.length:Int)
              ·rw [if_pos c44] at H
               have c44b0:decide (x24_1<(t388.length:Int))=true:=decide_eq_true c44
               clear c44
               by_cases c45:0≤x10_2
               ·rw [if_pos c45] at H
                have c45b0:decide (0≤x10_2)=true:=decide_eq_true c45
                clear c45
                by_cases c46:x10_2<(t388.length:Int)
                ·rw [if_pos c46] at H
                 have c46b0:decide (x10_2<(t388.length:Int))=true:=decide_eq_true c46
                 clear c46
                 by_cases c47:0≤((rdOf ByteArray.empty t388 x10_2).size:Int)
                 ·rw [if_pos c47] at H
                  have c47b0:=eq_true c47
                  have c47b1:decide (0≤((rdOf ByteArray.empty t388 x10_2).size:Int))=true:=decide_eq_true c47
                  clear c47
                  by_cases c48:((rdOf ByteArray.empty t388 x10_2).size:Int)≤((rdOf ByteArray.empty t388 x24_1).size:Int)
                  ·rw [if_pos c48] at H
                   have c48b0:=eq_true c48
                   have c48b1:decide (((rdOf ByteArray.empty t388 x10_2).size:Int)≤((rdOf ByteArray.empty t388 x24_1).size:Int))=true:=decide_eq_true c48
                   clear c48
                   by_cases c49:x10_2<(x6_1.length:Int)
                   ·rw [if_pos c49] at H
                    have c49b0:decide (x10_2<(x6_1.length:Int))=true:=decide_eq_true c49
                    clear c49
                    by_cases c50:x24_1<(x6_1.length:Int)
                    ·rw [if_pos c50] at H
                     have c50b0:decide (x24_1<(x6_1.length:Int))=true:=decide_eq_true c50
                     clear c50
                     obtain ⟨y404,hy404⟩:∃ y_:List Int,y_=(x6_1.set (x24_1:Int).toNat (x396000_1.length:Int)):=⟨_,rfl⟩
                     replace H:(if x396000_1.length<4398046511104 then (impl_Trie_press.l0 k2 t388 y404 l0_0 (l0_0.length:Int) (wrap64 (x24_1+1)) l0_0 (x396000_1 ++ [(⟨(rdOf ByteArray.empty t388 x24_1).extract (((rdOf ByteArray.empty t388 x10_2).size:Int):Int).toNat (rdOf ByteArray.empty t388 x24_1).size,rd x6_1 x10_2,((rT l0_0 x24_1).f2)⟩:S69)])) else (none))=some r:=by first|(rw [hy404];with_reducible exact H)|(have H2_:=(Option.bind_some _ _).symm.trans H;rw [hy404];with_reducible exact H2_)|(have H2_:=(Option.bind_some _ _).symm.trans H;with_reducible exact H2_)|with_reducible exact H|(rw [hy404];exact H)|exact H
                     have Ny404:=Zz.mk hy404
                     clear hy404
                     by_cases c52:x396000_1.length<4398046511104
                     ·rw [if_pos c52] at H
                      have LMc52:=Zz.mk c52
                      clear c52
                      obtain ⟨y405,hy405⟩:∃ y_:List (S69),y_=(x396000_1 ++ [(⟨(rdOf ByteArray.empty t388 x24_1).extract (((rdOf ByteArray.empty t388 x10_2).size:Int):Int).toNat (rdOf ByteArray.empty t388 x24_1).size,rd x6_1 x10_2,((rT l0_0 x24_1).f2)⟩:S69)]):=⟨_,rfl⟩
                      replace H:(impl_Trie_press.l0 k2 t388 y404 l0_0 (l0_0.length:Int) (wrap64 (x24_1+1)) l0_0 y405)=some r:=by first|(rw [hy405];with_reducible exact H)|(have H2_:=(Option.bind_some _ _).symm.trans H;rw [hy405];with_reducible exact H2_)|(have H2_:=(Option.bind_some _ _).symm.trans H;with_reducible exact H2_)|with_reducible exact H|(rw [hy405];exact H)|exact H
                      have Ny405:=Zz.mk hy405
                      clear hy405
                      have H':=Zz.mk H
                      clear H
                      have hnb53:=NB386_387.out
                      have hnc53:=NB387_386.out
                      have hnb54:=NB386_395.out
                      have hnc54:=NB395_386.out
                      have hnb55:=NB386_397.out
                      have hnc55:=NB397_386.out
                      have hnb56:=NB386_399.out
                      have hnc56:=NB399_386.out
                      have hcz57_0:wr.cell? ⟨gb386,0,none⟩=some (.slice (some ad396) l0_0.length c0_0):=(bC BK386.out 0).trans rfl
                      have hfz57_0:=bF BK386.out 0
                      try go_wp2_with (first|((with_reducible refine gate_callee (f:=53) rfl ?_);refine goesL_ (some 42) rfl rfl Try.func53 (by kernel_rfl) rfl #[.agg #[.slice (some ad396) l0_0.length c0_0],.int .i64 x10_2] rfl (by (try simp only [List.map_toArray,List.map_cons,List.map_nil]);first|done|rfl|(simp only [List.length_drop,List.length_take];rfl)) ?_;(with_reducible refine (impl_Trie_stays.calls k2 _ _ l0_0 x10_2 true _ ?side1 ?side2 A41.out).mono ?_);(case side1=>repeat (first|exact (Kd.C_below HR0_0.out HB.out)|(with_reducible refine Kd.C_alloc ?_ _)|(with_reducible refine Kd.C_drewN ?_ _)|(with_reducible refine Kd.C_drew ?_)));(case side2=>exact HC0_0.out);rintro e w58 ⟨rfl,hb⟩;refine ⟨_,rfl,?_⟩;have n0_:=Zz.mk (Kd.R_below (by (with_reducible repeat first|apply Kd.R_alloc|apply Kd.R_drewN|apply Kd.R_drew);exact HO_3.out) hb);have n1_:=Zz.mk (Kd.R_below (by (with_reducible repeat first|apply Kd.R_alloc|apply Kd.R_drewN|apply Kd.R_drew);exact HO_6.out) hb);have n2_:=Zz.mk (Kd.R_below (by (with_reducible repeat first|apply Kd.R_alloc|apply Kd.R_drewN|apply Kd.R_drew);exact HO_396000.out) hb);have n3_:=Zz.mk (bB (g:=gb386) (o:=.cells #[.slice (some ad396) l0_0.length c0_0] 24 (0,0)) (by (with_reducible repeat first|apply bN|apply bD|apply bA);exact BK386.out) hb);have n4_:=Zz.mk (bB (g:=gb387) (o:=.cells #[.slice none 0 0] 36 (0,0)) (by (with_reducible repeat first|apply bN|apply bD|apply bA);exact BK387.out) hb);have n5_:=Zz.mk (bB (g:=gb395) (o:=.cells #[u396000] 36 (0,0)) (by (with_reducible repeat first|apply bN|apply bD|apply bA);exact BK395.out) hb);have n6_:=Zz.mk (bB (g:=gb397) (o:=.cells #[.int .i64 ((rT l0_0 x24_1).f0),.int .i64 ((rT l0_0 x24_1).f1),.bool ((rT l0_0 x24_1).f2)] 62 (0,0)) (by (with_reducible repeat first|apply bN|apply bD|apply bA);exact BK397.out) hb);have n7_:=Zz.mk (bB (g:=gb399) (o:=.cells #[.string (⟨#[]⟩:ByteArray),.int .i64 (-1),.bool ((rT l0_0 x24_1).f2)] 69 (0,0)) (by (with_reducible repeat first|apply bN|apply bD|apply bA);exact BK399.out) hb);have n8_:=Zz.mk (qP (by repeat (first|(with_reducible first|exact HB.out|apply qA|apply qN|apply q1_|refine qS ?_ GE386.out|refine qS ?_ GE387.out|refine qS ?_ GE395.out|refine qS ?_ GE397.out|refine qS ?_ GE399.out)|exact HB.out)) hb);clear HO_3;clear HO_6;clear HO_396000;clear BK386;clear BK387;clear BK395;clear BK397;clear BK399;clear HB;have HO_3:=n0_;have HO_6:=n1_;have HO_396000:=n2_;have BK386:=n3_;have BK387:=n4_;have BK395:=n5_;have BK397:=n6_;have BK399:=n7_;have HB:=n8_;clear n0_ n1_ n2_ n3_ n4_ n5_ n6_ n7_ n8_;(try clear hb);(try clear hb2);(try clear hk);(try clear hi)))
                      have n0_:=Zz.mk (Kd.R_drew HO_3.out)
                      have n1_:=Zz.mk (Kd.R_drew HO_6.out)
                      have n2_:=Zz.mk (Kd.R_drew HO_396000.out)
                      have n3_:=Zz.mk (bD BK386.out)
                      have n4_:=Zz.mk (bD BK387.out)
                      have n5_:=Zz.mk (bD BK395.out)
                      have n6_:=Zz.mk (bD BK397.out)
                      have n7_:=Zz.mk (bD BK399.out)
                      have n8_:=Zz.mk (q1_ HB.out)
                      revert n0_ n1_ n2_ n3_ n4_ n5_ n6_ n7_ n8_
                      clear HO_3 HO_6 HO_396000 BK386 BK387 BK395 BK397 BK399 HB
                      intro HO_3 HO_6 HO_396000 BK386 BK387 BK395 BK397 BK399 HB
                      obtain ⟨Ao60,co60,eo60⟩:=Kd.R_slice HO_3.out
                      (first|subst eo60|(injection eo60 with f1_ f2_ f3_;have f4_:=f1_.symm;have f5_:=f3_.symm;clear f1_ f2_ f3_;subst f4_;subst f5_))
                      have p401:0≤(x24_1:Int):=of_decide_eq_true (by first|(with_reducible assumption)|assumption)
                      have q401:x24_1<(t388.length:Int):=of_decide_eq_true (by first|(with_reducible assumption)|assumption)
                      obtain ⟨ad401,e401,hx401_0⟩:=Kd.at_string (Kd.R_reads' HO_3.out).2.2 x24_1 p401 q401
                      cases e401
                      replace p401:=eq_true p401
                      replace q401:=eq_true q401
                      have p402:0≤(x10_2:Int):=of_decide_eq_true (by first|(with_reducible assumption)|assumption)
                      have q402:x10_2<(t388.length:Int):=of_decide_eq_true (by first|(with_reducible assumption)|assumption)
                      obtain ⟨ad402,e402,hx402_0⟩:=Kd.at_string (Kd.R_reads' HO_3.out).2.2 x10_2 p402 q402
                      obtain rfl:ad401=ad402:=(by injection e402)
                      replace p402:=eq_true p402
                      replace q402:=eq_true q402
                      obtain ⟨Ao61,co61,eo61⟩:=Kd.R_slice HO_6.out
                      (first|subst eo61|(injection eo61 with f1_ f2_ f3_;have f4_:=f1_.symm;have f5_:=f3_.symm;clear f1_ f2_ f3_;subst f4_;subst f5_))
                      have p403:0≤(x10_2:Int):=of_decide_eq_true (by first|(with_reducible assumption)|assumption)
                      have q403:x10_2<(x6_1.length:Int):=of_decide_eq_true (by first|(with_reducible assumption)|assumption)
                      obtain ⟨ad403,e403,hx403_0⟩:=Kd.at_int (Kd.R_reads' HO_6.out).2.2 x10_2 p403 q403
                      cases e403
                      replace p403:=eq_true p403
                      replace q403:=eq_true q403
                      refine start_ (n:=18) (S:=fun w'=>w'.cell? (ad401.add (x24_1).toNat)=some (.string (rdOf ByteArray.empty t388 x24_1))∧w'.cell? (ad401.add (x10_2).toNat)=some (.string (rdOf ByteArray.empty t388 x10_2))∧w'.cell? (ad403.add (x10_2).toNat)=some (.int .i64 (rd x6_1 x10_2))) (ds:=[]) #[false,false,false,false,false,false,false,false,false,false,false,false,false,false,false,false,false,false] (by kernel_rfl) rfl rfl ⟨hx401_0,hx402_0,hx403_0⟩ (fun hHeld=>?_);refine with_tabW impl_Trie_press.tab12 impl_Trie_press.bits12 (fun HT_ HW_=>?_)
                      generalize w58.drew=w59 at HO_3 HO_6 HO_396000 BK386 BK387 BK395 BK397 BK399 HB hx401_0 hx402_0 hx403_0 hHeld ⊢
                      refine pure_ (i:=0) (N:=some 50) (v:=?_) (a':=?_) #[true,false,false,false,false,false,false,false,false,false,false,false,false,false,false,false,false,false] rfl rfl (any_of HT_.out (by kernel_rfl)) (fun _ _ _ h=>h) (Or.inl ⟨by rfl,?_⟩) ?_ ?_
                      rotate_left
                      ·intro w'
                       go_simp
                       with_reducible rfl
                      rotate_left
                      ·simp only [Act.put,List.setIfInBounds_toArray,List.set_cons_zero,List.set_cons_succ,i64_w,i32_w]
                       rfl
                      refine pure_ (i:=1) (N:=some 51) (v:=?_) (a':=?_) #[true,true,false,false,false,false,false,false,false,false,false,false,false,false,false,false,false,false] rfl rfl (any_of HT_.out (by kernel_rfl)) (fun _ _ _ h=>h) (Or.inl ⟨by rfl,?_⟩) ?_ ?_
                      rotate_left
                      ·intro w'
                       go_simp
                       with_reducible rfl
                      rotate_left
                      ·simp only [Act.put,List.setIfInBounds_toArray,List.set_cons_zero,List.set_cons_succ,i64_w,i32_w]
                       rfl
                      refine pure_ (i:=2) (N:=some 52) (v:=?_) (a':=?_) #[true,true,true,false,false,false,false,false,false,false,false,false,false,false,false,false,false,false] rfl rfl (any_of HT_.out (by kernel_rfl)) (fun _ _ _ h=>h) (Or.inl ⟨by rfl,?_⟩) ?_ ?_
                      rotate_left
                      ·intro w'
                       go_simp
                       with_reducible rfl
                      rotate_left
                      ·simp only [Act.put,List.setIfInBounds_toArray,List.set_cons_zero,List.set_cons_succ,i64_w,i32_w]
                       rfl
                      refine pure_ (i:=4) (N:=some 54) (v:=?_) (a':=?_) #[true,true,true,false,true,false,false,false,false,false,false,false,false,false,false,false,false,false] rfl rfl (any_of HT_.out (by kernel_rfl)) (fun _ _ _ h=>h) (Or.inl ⟨by rfl,?_⟩) ?_ ?_
                      rotate_left
                      ·intro w'
                       go_simp
                       with_reducible rfl
                      rotate_left
                      ·simp only [Act.put,List.setIfInBounds_toArray,List.set_cons_zero,List.set_cons_succ,i64_w,i32_w]
                       rfl
                      refine pure_ (i:=5) (N:=some 55) (v:=?_) (a':=?_) #[true,true,true,false,true,true,false,false,false,false,false,false,false,false,false,false,false,false] rfl rfl (any_of HT_.out (by kernel_rfl)) (fun _ _ _ h=>h) (Or.inl ⟨by rfl,?_⟩) ?_ ?_
                      rotate_left
                      ·intro w'
                       go_simp
                       with_reducible rfl
                      rotate_left
                      ·simp only [Act.put,List.setIfInBounds_toArray,List.set_cons_zero,List.set_cons_succ,i64_w,i32_w]
                       rfl
                      refine pure_ (i:=6) (N:=some 56) (v:=?_) (a':=?_) #[true,true,true,false,true,true,true,false,false,false,false,false,false,false,false,false,false,false] rfl rfl (any_of HT_.out (by kernel_rfl)) (fun _ _ _ h=>h) (Or.inl ⟨by rfl,?_⟩) ?_ ?_
                      rotate_left
                      ·intro w'
                       go_simp
                       with_reducible rfl
                      rotate_left
                      ·simp only [Act.put,List.setIfInBounds_toArray,List.set_cons_zero,List.set_cons_succ,i64_w,i32_w]
                       rfl
                      refine pure_ (i:=10) (N:=some 60) (v:=?_) (a':=?_) #[true,true,true,false,true,true,true,false,false,false,true,false,false,false,false,false,false,false] rfl rfl (any_of HT_.out (by kernel_rfl)) (fun _ _ _ h=>h) (Or.inl ⟨by rfl,?_⟩) ?_ ?_
                      rotate_left
                      ·intro w'
                       go_simp
                       with_reducible rfl
                      rotate_left
                      ·simp only [Act.put,List.setIfInBounds_toArray,List.set_cons_zero,List.set_cons_succ,i64_w,i32_w]
                       rfl
                      refine pure_ (i:=11) (N:=some 61) (v:=?_) (a':=?_) #[true,true,true,false,true,true,true,false,false,false,true,true,false,false,false,false,false,false] rfl rfl (any_of HT_.out (by kernel_rfl)) (fun _ _ _ h=>h) (Or.inl ⟨by rfl,?_⟩) ?_ ?_
                      rotate_left
                      ·intro w'
                       go_simp
                       with_reducible rfl
                      rotate_left
                      ·simp only [Act.put,List.setIfInBounds_toArray,List.set_cons_zero,List.set_cons_succ,i64_w,i32_w]
                       rfl
                      refine pure_ (i:=12) (N:=some 62) (v:=?_) (a':=?_) #[true,true,true,false,true,true,true,false,false,false,true,true,true,false,false,false,false,false] rfl rfl (any_of HT_.out (by kernel_rfl)) (fun _ _ _ h=>h) (Or.inl ⟨by rfl,?_⟩) ?_ ?_
                      rotate_left
                      ·intro w'
                       go_simp
                       with_reducible rfl
                      rotate_left
                      ·simp only [Act.put,List.setIfInBounds_toArray,List.set_cons_zero,List.set_cons_succ,i64_w,i32_w]
                       rfl
                      refine take_ (i:=3) (N:=some 53) (v:=?_) (a':=?_) #[true,true,true,true,true,true,true,false,false,false,true,true,true,false,false,false,false,false] rfl rfl (take_ofW HT_.out HW_.out (by kernel_rfl)) (fun _ _ _ h=>h) (Or.inl ⟨by rfl,?_⟩) hHeld ?_ ?_
                      rotate_left
                      ·rintro w' ⟨s0,s1,s2⟩
                       go_simp
                       with_reducible rfl
                      rotate_left
                      ·simp only [Act.put,List.setIfInBounds_toArray,List.set_cons_zero,List.set_cons_succ,i64_w,i32_w]
                       rfl
                      refine take_ (i:=7) (N:=some 57) (v:=?_) (a':=?_) #[true,true,true,true,true,true,true,true,false,false,true,true,true,false,false,false,false,false] rfl rfl (take_ofW HT_.out HW_.out (by kernel_rfl)) (fun _ _ _ h=>h) (Or.inl ⟨by rfl,?_⟩) hHeld ?_ ?_
                      rotate_left
                      ·rintro w' ⟨s0,s1,s2⟩
                       go_simp
                       with_reducible rfl
                      rotate_left
                      ·simp only [Act.put,List.setIfInBounds_toArray,List.set_cons_zero,List.set_cons_succ,i64_w,i32_w]
                       rfl
                      refine pure_ (i:=8) (N:=some 58) (v:=?_) (a':=?_) #[true,true,true,true,true,true,true,true,true,false,true,true,true,false,false,false,false,false] rfl rfl (any_of HT_.out (by kernel_rfl)) (fun _ _ _ h=>h) (Or.inl ⟨by rfl,?_⟩) ?_ ?_
                      rotate_left
                      ·intro w'
                       go_simp
                       with_reducible rfl
                      rotate_left
                      ·simp only [Act.put,List.setIfInBounds_toArray,List.set_cons_zero,List.set_cons_succ,i64_w,i32_w]
                       rfl
                      refine pure_ (i:=9) (N:=some 59) (v:=?_) (a':=?_) #[true,true,true,true,true,true,true,true,true,true,true,true,true,false,false,false,false,false] rfl rfl (any_of HT_.out (by kernel_rfl)) (fun _ _ _ h=>h) (Or.inl ⟨by rfl,?_⟩) ?_ ?_
                      rotate_left
                      ·intro w'
                       go_simp
                       with_reducible rfl
                      rotate_left
                      ·simp only [Act.put,List.setIfInBounds_toArray,List.set_cons_zero,List.set_cons_succ,i64_w,i32_w]
                       rfl
                      refine pure_ (i:=14) (N:=some 64) (v:=?_) (a':=?_) #[true,true,true,true,true,true,true,true,true,true,true,true,true,false,true,false,false,false] rfl rfl (any_of HT_.out (by kernel_rfl)) (fun _ _ _ h=>h) (Or.inl ⟨by rfl,?_⟩) ?_ ?_
                      rotate_left
                      ·intro w'
                       go_simp
                       with_reducible rfl
                      rotate_left
                      ·simp only [Act.put,List.setIfInBounds_toArray,List.set_cons_zero,List.set_cons_succ,i64_w,i32_w]
                       rfl
                      refine take_ (i:=13) (N:=some 63) (v:=?_) (a':=?_) #[true,true,true,true,true,true,true,true,true,true,true,true,true,true,true,false,false,false] rfl rfl (take_ofW HT_.out HW_.out (by kernel_rfl)) (fun _ _ _ h=>h) (Or.inl ⟨by rfl,?_⟩) hHeld ?_ ?_
                      rotate_left
                      ·rintro w' ⟨s0,s1,s2⟩
                       go_simp
                       with_reducible rfl
                      rotate_left
                      ·simp only [Act.put,List.setIfInBounds_toArray,List.set_cons_zero,List.set_cons_succ,i64_w,i32_w]
                       rfl
                      refine one_ (i:=15) (N:=none) #[true,true,true,true,true,true,true,true,true,true,true,true,true,true,true,true,false,false] rfl rfl (one_of HT_.out (by kernel_rfl)) (by decide) (fun K hK=>?_)
                      have hs62:w59.cell? ⟨gb399,0,none⟩=some (.string (⟨#[]⟩:ByteArray)):=(bC BK399.out 0).trans rfl
                      have hfs62:=bF BK399.out 0
                      have hns62_0:=NB386_399.out
                      have hns62_1:=NB387_399.out
                      have hns62_2:=NB395_399.out
                      have hns62_3:=NB397_399.out
                      have hms62_0:=NB399_386.out
                      have hms62_1:=NB399_387.out
                      have hms62_2:=NB399_395.out
                      have hms62_3:=NB399_397.out
                      refine skip_ (w1:=?_) (by rfl) rfl ?_ ?_
                      rotate_left
                      ·go_simp
                       rfl
                      refine hK.out _ _ ⟨((cell_far (p:=⟨gb399,_,none⟩) (by first|exact Kd.own_blk (Kd.R_ne HO_3.out BK399.out (by decide))|(rw [add_block];exact Kd.own_blk (Kd.R_ne HO_3.out BK399.out (by decide)))|(show (Addr.add _ _).block ≠ _;rw [add_block];exact Kd.own_blk (Kd.R_ne HO_3.out BK399.out (by decide)))|(dsimp only;exact Kd.own_blk (Kd.R_ne HO_3.out BK399.out (by decide)))) _).trans (hHeld.1)),((cell_far (p:=⟨gb399,_,none⟩) (by first|exact Kd.own_blk (Kd.R_ne HO_3.out BK399.out (by decide))|(rw [add_block];exact Kd.own_blk (Kd.R_ne HO_3.out BK399.out (by decide)))|(show (Addr.add _ _).block ≠ _;rw [add_block];exact Kd.own_blk (Kd.R_ne HO_3.out BK399.out (by decide)))|(dsimp only;exact Kd.own_blk (Kd.R_ne HO_3.out BK399.out (by decide)))) _).trans (hHeld.2.1)),((cell_far (p:=⟨gb399,_,none⟩) (by first|exact Kd.own_blk (Kd.R_ne HO_6.out BK399.out (by decide))|(rw [add_block];exact Kd.own_blk (Kd.R_ne HO_6.out BK399.out (by decide)))|(show (Addr.add _ _).block ≠ _;rw [add_block];exact Kd.own_blk (Kd.R_ne HO_6.out BK399.out (by decide)))|(dsimp only;exact Kd.own_blk (Kd.R_ne HO_6.out BK399.out (by decide)))) _).trans (hHeld.2.2))⟩ (fun hHeld=>?_)
                      clear hK K
                      refine pure_ (i:=16) (N:=some 65) (v:=?_) (a':=?_) #[true,true,true,true,true,true,true,true,true,true,true,true,true,true,true,true,true,false] rfl rfl (any_of HT_.out (by kernel_rfl)) (fun _ _ _ h=>h) (Or.inl ⟨by rfl,?_⟩) ?_ ?_
                      rotate_left
                      ·intro w'
                       go_simp
                       with_reducible rfl
                      rotate_left
                      ·simp only [Act.put,List.setIfInBounds_toArray,List.set_cons_zero,List.set_cons_succ,i64_w,i32_w]
                       rfl
                      refine one_ (i:=17) (N:=none) #[true,true,true,true,true,true,true,true,true,true,true,true,true,true,true,true,true,true] rfl rfl (one_of HT_.out (by kernel_rfl)) (by decide) (fun K hK=>?_)
                      have hs63:w59.cell? ⟨gb399,1,none⟩=some (.int .i64 (-1)):=(bC BK399.out 1).trans rfl
                      have hfs63:=bF BK399.out 1
                      have hns63_0:=NB386_399.out
                      have hns63_1:=NB387_399.out
                      have hns63_2:=NB395_399.out
                      have hns63_3:=NB397_399.out
                      have hms63_0:=NB399_386.out
                      have hms63_1:=NB399_387.out
                      have hms63_2:=NB399_395.out
                      have hms63_3:=NB399_397.out
                      refine skip_ (w1:=?_) (by rfl) rfl ?_ ?_
                      rotate_left
                      ·go_simp
                       rfl
                      refine hK.out _ _ ⟨((cell_far (p:=⟨gb399,_,none⟩) (by first|exact Kd.own_blk (Kd.R_ne HO_3.out BK399.out (by decide))|(rw [add_block];exact Kd.own_blk (Kd.R_ne HO_3.out BK399.out (by decide)))|(show (Addr.add _ _).block ≠ _;rw [add_block];exact Kd.own_blk (Kd.R_ne HO_3.out BK399.out (by decide)))|(dsimp only;exact Kd.own_blk (Kd.R_ne HO_3.out BK399.out (by decide)))) _).trans (hHeld.1)),((cell_far (p:=⟨gb399,_,none⟩) (by first|exact Kd.own_blk (Kd.R_ne HO_3.out BK399.out (by decide))|(rw [add_block];exact Kd.own_blk (Kd.R_ne HO_3.out BK399.out (by decide)))|(show (Addr.add _ _).block ≠ _;rw [add_block];exact Kd.own_blk (Kd.R_ne HO_3.out BK399.out (by decide)))|(dsimp only;exact Kd.own_blk (Kd.R_ne HO_3.out BK399.out (by decide)))) _).trans (hHeld.2.1)),((cell_far (p:=⟨gb399,_,none⟩) (by first|exact Kd.own_blk (Kd.R_ne HO_6.out BK399.out (by decide))|(rw [add_block];exact Kd.own_blk (Kd.R_ne HO_6.out BK399.out (by decide)))|(show (Addr.add _ _).block ≠ _;rw [add_block];exact Kd.own_blk (Kd.R_ne HO_6.out BK399.out (by decide)))|(dsimp only;exact Kd.own_blk (Kd.R_ne HO_6.out BK399.out (by decide)))) _).trans (hHeld.2.2))⟩ (fun hHeld=>?_)
                      clear hK K
                      refine done_ (done_of HT_.out (by kernel_rfl)) ?_
                      have n0_:Zz (Kd.R Kd.string 9 ((w59.setCell ⟨gb399,0,none⟩ (.string ((rdOf ByteArray.empty t388 x24_1).extract (rdOf ByteArray.empty t388 x10_2).size (rdOf ByteArray.empty t388 x24_1).size))).setCell ⟨gb399,1,none⟩ (.int .i64 (rd x6_1 x10_2))) w.heap.size (fun _=>True) (.slice (some ad401) t388.length co60) t388):=⟨by (with_reducible repeat first|apply Kd.R_alloc|apply Kd.R_drewN|apply Kd.R_drew);exact Kd.R_mono (R_same_ (Kd.R_far (p:=⟨gb399,1,none⟩) (Kd.R_far (p:=⟨gb399,0,none⟩) (Kd.R_types HO_3.out BK399.out (by decide)) (fun _ hk=>hk.2) (.string ((rdOf ByteArray.empty t388 x24_1).extract (rdOf ByteArray.empty t388 x10_2).size (rdOf ByteArray.empty t388 x24_1).size))) (fun _ hk=>hk.2) (.int .i64 (rd x6_1 x10_2))) rfl) (fun _ hk=>trivial)⟩
                      have n1_:Zz (Kd.R (Kd.int .i64) 3 ((w59.setCell ⟨gb399,0,none⟩ (.string ((rdOf ByteArray.empty t388 x24_1).extract (rdOf ByteArray.empty t388 x10_2).size (rdOf ByteArray.empty t388 x24_1).size))).setCell ⟨gb399,1,none⟩ (.int .i64 (rd x6_1 x10_2))) w.heap.size (fun _=>True) (.slice (some ad403) x6_1.length co61) x6_1):=⟨by (with_reducible repeat first|apply Kd.R_alloc|apply Kd.R_drewN|apply Kd.R_drew);exact Kd.R_mono (R_same_ (Kd.R_far (p:=⟨gb399,1,none⟩) (Kd.R_far (p:=⟨gb399,0,none⟩) (Kd.R_types HO_6.out BK399.out (by decide)) (fun _ hk=>hk.2) (.string ((rdOf ByteArray.empty t388 x24_1).extract (rdOf ByteArray.empty t388 x10_2).size (rdOf ByteArray.empty t388 x24_1).size))) (fun _ hk=>hk.2) (.int .i64 (rd x6_1 x10_2))) rfl) (fun _ hk=>trivial)⟩
                      have n2_:Zz (Kd.R k69 69 ((w59.setCell ⟨gb399,0,none⟩ (.string ((rdOf ByteArray.empty t388 x24_1).extract (rdOf ByteArray.empty t388 x10_2).size (rdOf ByteArray.empty t388 x24_1).size))).setCell ⟨gb399,1,none⟩ (.int .i64 (rd x6_1 x10_2))) w.heap.size (fun k_=>k_ ≠ gb399) u396000 x396000_1):=⟨by (with_reducible repeat first|apply Kd.R_alloc|apply Kd.R_drewN|apply Kd.R_drew);exact Kd.R_mono (R_same_ (Kd.R_far (p:=⟨gb399,1,none⟩) (Kd.R_far (p:=⟨gb399,0,none⟩) (Kd.R_mono HO_396000.out (fun k_ hk=>(⟨hk,hk⟩:_∧k_ ≠ gb399))) (fun _ hk=>hk.2) (.string ((rdOf ByteArray.empty t388 x24_1).extract (rdOf ByteArray.empty t388 x10_2).size (rdOf ByteArray.empty t388 x24_1).size))) (fun _ hk=>hk.2) (.int .i64 (rd x6_1 x10_2))) rfl) (fun _ hk=>hk.1)⟩
                      have n3_:Zz (((w59.setCell ⟨gb399,0,none⟩ (.string ((rdOf ByteArray.empty t388 x24_1).extract (rdOf ByteArray.empty t388 x10_2).size (rdOf ByteArray.empty t388 x24_1).size))).setCell ⟨gb399,1,none⟩ (.int .i64 (rd x6_1 x10_2))).heap[gb386]?=some (.cells #[.slice (some ad396) l0_0.length c0_0] 24 (0,0))):=⟨by (with_reducible repeat first|apply bN|apply bD|apply bA);refine blk_far ?_ NB386_399.out _;(with_reducible repeat first|apply bN|apply bD|apply bA);refine blk_far ?_ NB386_399.out _;(with_reducible repeat first|apply bN|apply bD|apply bA);exact BK386.out⟩
                      have n4_:Zz (((w59.setCell ⟨gb399,0,none⟩ (.string ((rdOf ByteArray.empty t388 x24_1).extract (rdOf ByteArray.empty t388 x10_2).size (rdOf ByteArray.empty t388 x24_1).size))).setCell ⟨gb399,1,none⟩ (.int .i64 (rd x6_1 x10_2))).heap[gb387]?=some (.cells #[.slice none 0 0] 36 (0,0))):=⟨by (with_reducible repeat first|apply bN|apply bD|apply bA);refine blk_far ?_ NB387_399.out _;(with_reducible repeat first|apply bN|apply bD|apply bA);refine blk_far ?_ NB387_399.out _;(with_reducible repeat first|apply bN|apply bD|apply bA);exact BK387.out⟩
                      have n5_:Zz (((w59.setCell ⟨gb399,0,none⟩ (.string ((rdOf ByteArray.empty t388 x24_1).extract (rdOf ByteArray.empty t388 x10_2).size (rdOf ByteArray.empty t388 x24_1).size))).setCell ⟨gb399,1,none⟩ (.int .i64 (rd x6_1 x10_2))).heap[gb395]?=some (.cells #[u396000] 36 (0,0))):=⟨by (with_reducible repeat first|apply bN|apply bD|apply bA);refine blk_far ?_ NB395_399.out _;(with_reducible repeat first|apply bN|apply bD|apply bA);refine blk_far ?_ NB395_399.out _;(with_reducible repeat first|apply bN|apply bD|apply bA);exact BK395.out⟩
                      have n6_:Zz (((w59.setCell ⟨gb399,0,none⟩ (.string ((rdOf ByteArray.empty t388 x24_1).extract (rdOf ByteArray.empty t388 x10_2).size (rdOf ByteArray.empty t388 x24_1).size))).setCell ⟨gb399,1,none⟩ (.int .i64 (rd x6_1 x10_2))).heap[gb397]?=some (.cells #[.int .i64 ((rT l0_0 x24_1).f0),.int .i64 ((rT l0_0 x24_1).f1),.bool ((rT l0_0 x24_1).f2)] 62 (0,0))):=⟨by (with_reducible repeat first|apply bN|apply bD|apply bA);refine blk_far ?_ NB397_399.out _;(with_reducible repeat first|apply bN|apply bD|apply bA);refine blk_far ?_ NB397_399.out _;(with_reducible repeat first|apply bN|apply bD|apply bA);exact BK397.out⟩
                      have n7_:Zz (((w59.setCell ⟨gb399,0,none⟩ (.string ((rdOf ByteArray.empty t388 x24_1).extract (rdOf ByteArray.empty t388 x10_2).size (rdOf ByteArray.empty t388 x24_1).size))).setCell ⟨gb399,1,none⟩ (.int .i64 (rd x6_1 x10_2))).heap[gb399]?=some (.cells #[.string ((rdOf ByteArray.empty t388 x24_1).extract (rdOf ByteArray.empty t388 x10_2).size (rdOf ByteArray.empty t388 x24_1).size),.int .i64 (rd x6_1 x10_2),.bool ((rT l0_0 x24_1).f2)] 69 (0,0))):=⟨by (with_reducible repeat first|apply bN|apply bD|apply bA);refine blk_put (cs:=#[.string ((rdOf ByteArray.empty t388 x24_1).extract (rdOf ByteArray.empty t388 x10_2).size (rdOf ByteArray.empty t388 x24_1).size),.int .i64 (-1),.bool ((rT l0_0 x24_1).f2)]) ?_ 1 _ rfl;(with_reducible repeat first|apply bN|apply bD|apply bA);refine blk_put (cs:=#[.string (⟨#[]⟩:ByteArray),.int .i64 (-1),.bool ((rT l0_0 x24_1).f2)]) ?_ 0 _ rfl;(with_reducible repeat first|apply bN|apply bD|apply bA);exact BK399.out⟩
                      have n8_:Zz (Below w.heap.size w ((w59.setCell ⟨gb399,0,none⟩ (.string ((rdOf ByteArray.empty t388 x24_1).extract (rdOf ByteArray.empty t388 x10_2).size (rdOf ByteArray.empty t388 x24_1).size))).setCell ⟨gb399,1,none⟩ (.int .i64 (rd x6_1 x10_2)))):=⟨by repeat (first|(with_reducible first|exact HB.out|apply qA|apply qN|apply q1_|refine qS ?_ GE386.out|refine qS ?_ GE387.out|refine qS ?_ GE395.out|refine qS ?_ GE397.out|refine qS ?_ GE399.out)|exact HB.out)⟩
                      (try clear HO_3)
                      (try clear HO_6)
                      (try clear HO_396000)
                      (try clear BK386)
                      (try clear BK387)
                      (try clear BK395)
                      (try clear BK397)
                      (try clear BK399)
                      (try clear HB)
                      generalize ((w59.setCell ⟨gb399,0,none⟩ (.string ((rdOf ByteArray.empty t388 x24_1).extract (rdOf ByteArray.empty t388 x10_2).size (rdOf ByteArray.empty t388 x24_1).size))).setCell ⟨gb399,1,none⟩ (.int .i64 (rd x6_1 x10_2)))=w64 at n0_ n1_ n2_ n3_ n4_ n5_ n6_ n7_ n8_ ⊢
                      have HO_3:=n0_
                      have HO_6:=n1_
                      have HO_396000:=n2_
                      have BK386:=n3_
                      have BK387:=n4_
                      have BK395:=n5_
                      have BK397:=n6_
                      have BK399:=n7_
                      have HB:=n8_
                      clear n0_ n1_ n2_ n3_ n4_ n5_ n6_ n7_ n8_
                      have hnb65:=NB395_387.out
                      have hnc65:=NB387_395.out
                      have hnb66:=NB395_397.out
                      have hnc66:=NB397_395.out
                      have hnb67:=NB395_399.out
                      have hnc67:=NB399_395.out
                      have hcz68_0:w64.cell? ⟨gb395,0,none⟩=some (u396000):=(bC BK395.out 0).trans rfl
                      have hfz68_0:=bF BK395.out 0
                      obtain ⟨Ao69,co69,eo69⟩:=Kd.R_slice HO_396000.out
                      subst eo69
                      have p51:0≤(x24_1:Int):=of_decide_eq_true (by first|(with_reducible assumption)|assumption)
                      have q51:(x24_1:Int)<((x6_1.length:Int):Int):=of_decide_eq_true (by first|(with_reducible assumption)|assumption)
                      obtain ⟨go51,co51,eo51,gb51,gl51,cl51,HG51⟩:=Kd.R_form HO_6.out (by omega)
                      (first|cases eo51|(injection eo51 with ea_ en_ ec_;(first|subst ea_|(injection ea_ with ea_;subst ea_));subst ec_;clear en_))
                      have GB51:=Zz.mk gb51
                      have GG51:=Zz.mk HG51
                      clear gb51 gl51 HG51
                      (first|simp only [add_plain] at hx403_0|skip)
                      obtain ⟨hx51_0,hf51_0⟩:=Kd.R_celln 0 HO_6.out (x24_1:Int) p51 q51
                      (try simp only [Int.toNat_natCast] at hx51_0 hf51_0)
                      replace p51:=eq_true p51
                      replace q51:=eq_true q51
                      obtain ⟨hy70_,hz70_⟩:=Kd.R_celln 0 HO_6.out (x24_1:Int) (of_decide_eq_true (by first|(with_reducible assumption)|assumption)) (of_decide_eq_true (by first|(with_reducible assumption)|assumption))
                      (try simp only [Int.toNat_natCast] at hy70_ hz70_)
                      have HP70:=Kd.R_putg HO_6.out (x24_1:Int) (x396000_1.length:Int)
                      try go_wp2_with (first|((with_reducible refine gate_store (t:=3) (p:=71) rfl ?_);refine store_event (t:=3) (p:=71) (v:=?vo_w71) (w1:=(w64.setCell ⟨go51,(x24_1:Int).toNat,none⟩ (.int .i64 (x396000_1.length:Int)))) ?hg ?ho ?hn ?hr ?_;(case ho=>rfl);(case hg=>rfl);(case hn=>rfl);(case hr=>first|(go_simp;done)|(go_simp;rfl));intro w71 hw;have hg:w64.grownBy w71 (some go51):=(by rw [hw];exact HP70.2);have hp_:Kd.R (Kd.int .i64) 3 w71 w.heap.size (fun _=>True) (.slice (some ⟨go51,0,none⟩) x6_1.length co61) y404:=(by rw [hw,Ny404.out];exact HP70.1);clear HP70;have n0_:=Zz.mk (Kd.R_over' (v:=(.slice (some ⟨go51,0,none⟩) x6_1.length co61)) (by (with_reducible repeat first|apply Kd.R_alloc|apply Kd.R_drewN|apply Kd.R_drew);exact HO_3.out) (Kd.R_typed HO_6.out) (by decide) hg);have n1_:=Zz.mk (hp_);have n2_:=Zz.mk (Kd.R_over' (v:=(.slice (some ⟨go51,0,none⟩) x6_1.length co61)) (by (with_reducible repeat first|apply Kd.R_alloc|apply Kd.R_drewN|apply Kd.R_drew);exact HO_396000.out) (Kd.R_typed HO_6.out) (by decide) hg);have n3_:=Zz.mk (blk_grown (g:=gb386) (o:=.cells #[.slice (some ad396) l0_0.length c0_0] 24 (0,0)) (by (with_reducible repeat first|apply bN|apply bD|apply bA);exact BK386.out) hg (Kd.R_ne HO_6.out BK386.out (by decide)));have n4_:=Zz.mk (blk_grown (g:=gb387) (o:=.cells #[.slice none 0 0] 36 (0,0)) (by (with_reducible repeat first|apply bN|apply bD|apply bA);exact BK387.out) hg (Kd.R_ne HO_6.out BK387.out (by decide)));have n5_:=Zz.mk (blk_grown (g:=gb395) (o:=.cells #[.slice Ao69 x396000_1.length co69] 36 (0,0)) (by (with_reducible repeat first|apply bN|apply bD|apply bA);exact BK395.out) hg (Kd.R_ne HO_6.out BK395.out (by decide)));have n6_:=Zz.mk (blk_grown (g:=gb397) (o:=.cells #[.int .i64 ((rT l0_0 x24_1).f0),.int .i64 ((rT l0_0 x24_1).f1),.bool ((rT l0_0 x24_1).f2)] 62 (0,0)) (by (with_reducible repeat first|apply bN|apply bD|apply bA);exact BK397.out) hg (Kd.R_ne HO_6.out BK397.out (by decide)));have n7_:=Zz.mk (blk_grown (g:=gb399) (o:=.cells #[.string ((rdOf ByteArray.empty t388 x24_1).extract (((rdOf ByteArray.empty t388 x10_2).size:Int):Int).toNat (rdOf ByteArray.empty t388 x24_1).size),.int .i64 (rd x6_1 x10_2),.bool ((rT l0_0 x24_1).f2)] 69 (0,0)) (by (with_reducible repeat first|apply bN|apply bD|apply bA);exact BK399.out) hg (Kd.R_ne HO_6.out BK399.out (by decide)));have n8_:=Zz.mk ((by rw [hw];exact qS (HB.out) GB51.out:Below w.heap.size w w71));clear HO_3;clear HO_6;clear HO_396000;clear BK386;clear BK387;clear BK395;clear BK397;clear BK399;clear HB;have HO_3:=n0_;have HO_6:=n1_;have HO_396000:=n2_;have BK386:=n3_;have BK387:=n4_;have BK395:=n5_;have BK397:=n6_;have BK399:=n7_;have HB:=n8_;clear n0_ n1_ n2_ n3_ n4_ n5_ n6_ n7_ n8_;clear hg hw hp_;have hcz72_0:w71.cell? ⟨gb395,0,none⟩=some (.slice Ao69 x396000_1.length co69):=(bC BK395.out 0).trans rfl;have hfz72_0:=bF BK395.out 0;have hnb73:=NB399_387.out;have hnc73:=NB387_399.out;have hnb74:=NB399_397.out;have hnc74:=NB397_399.out;have hcz75_0:w71.cell? ⟨gb399,0,none⟩=some (.string ((rdOf ByteArray.empty t388 x24_1).extract (((rdOf ByteArray.empty t388 x10_2).size:Int):Int).toNat (rdOf ByteArray.empty t388 x24_1).size)):=(bC BK399.out 0).trans rfl;have hcz75_1:w71.cell? ⟨gb399,1,none⟩=some (.int .i64 (rd x6_1 x10_2)):=(bC BK399.out 1).trans rfl;have hcz75_2:w71.cell? ⟨gb399,2,none⟩=some (.bool ((rT l0_0 x24_1).f2)):=(bC BK399.out 2).trans rfl;have hfz75_0:=bF BK399.out 0;have hfz75_1:=bF BK399.out 1;have hfz75_2:=bF BK399.out 2)|((with_reducible refine gate_builtin (b:=.append) (xs:=#[.tmp 73,.tmp 75]) rfl ?_);at_builtin;refine Kd.R_append k69 (w0:=w) w.heap.size rfl (.tmp 73) (.tmp 75) 34 69 (.agg #[(.string ⟨#[]⟩),(.int .i64 0),(.bool false)]) 32 rfl Try.underlying34 info69 rfl (by decide) (by omega) (.slice Ao69 x396000_1.length co69) x396000_1 (⟨(rdOf ByteArray.empty t388 x24_1).extract (((rdOf ByteArray.empty t388 x10_2).size:Int):Int).toNat (rdOf ByteArray.empty t388 x24_1).size,rd x6_1 x10_2,((rT l0_0 x24_1).f2)⟩:S69) [.string ((rdOf ByteArray.empty t388 x24_1).extract (((rdOf ByteArray.empty t388 x10_2).size:Int):Int).toNat (rdOf ByteArray.empty t388 x24_1).size),.int .i64 (rd x6_1 x10_2),.bool ((rT l0_0 x24_1).f2)] (fun k_=>k_ ≠ gb399) (fun _=>False) rfl rfl ?aP (fun _ hk=>hk.elim) ?aF ?aO ?aB ?aS ?aL ?_;(case aP=>exact k69_mkM _ _ _ (⟨(rdOf ByteArray.empty t388 x24_1).extract (((rdOf ByteArray.empty t388 x10_2).size:Int):Int).toNat (rdOf ByteArray.empty t388 x24_1).size,rd x6_1 x10_2,((rT l0_0 x24_1).f2)⟩:S69));(case aB=>exact (by repeat (first|(with_reducible first|exact HB.out|apply qA|apply qN|apply q1_|refine qS ?_ GE386.out|refine qS ?_ GE387.out|refine qS ?_ GE395.out|refine qS ?_ GE397.out|refine qS ?_ GE399.out)|exact HB.out)));(case aF=>exact (fun k_ hk=>Kd.freshB (g:=gb399) (o:=.cells #[.string ((rdOf ByteArray.empty t388 x24_1).extract (((rdOf ByteArray.empty t388 x10_2).size:Int):Int).toNat (rdOf ByteArray.empty t388 x24_1).size),.int .i64 (rd x6_1 x10_2),.bool ((rT l0_0 x24_1).f2)] 69 (0,0)) (by (with_reducible repeat first|apply bN|apply bD|apply bA);exact BK399.out) k_ hk));(case aO=>exact (by (with_reducible repeat first|apply Kd.R_alloc|apply Kd.R_drewN|apply Kd.R_drew);exact HO_396000.out));(case aS=>exact (qZ (by repeat (first|(with_reducible first|exact HB.out|apply qA|apply qN|apply q1_|refine qS ?_ GE386.out|refine qS ?_ GE387.out|refine qS ?_ GE395.out|refine qS ?_ GE397.out|refine qS ?_ GE399.out)|exact HB.out))));(case aL=>have:=LMc52.out;omega);intro v406 w76 ho hb hg hat;rw [← Ny405.out] at ho;have n0_:=Zz.mk (Kd.R_over' (by (with_reducible repeat first|apply Kd.R_alloc|apply Kd.R_drewN|apply Kd.R_drew);exact HO_3.out) (Kd.R_typed (by (with_reducible repeat first|apply Kd.R_alloc|apply Kd.R_drewN|apply Kd.R_drew);exact HO_396000.out)) (by decide) hg);have n1_:=Zz.mk (Kd.R_over' (by (with_reducible repeat first|apply Kd.R_alloc|apply Kd.R_drewN|apply Kd.R_drew);exact HO_6.out) (Kd.R_typed (by (with_reducible repeat first|apply Kd.R_alloc|apply Kd.R_drewN|apply Kd.R_drew);exact HO_396000.out)) (by decide) hg);have n2_:=Zz.mk (blk_grown (g:=gb386) (o:=.cells #[.slice (some ad396) l0_0.length c0_0] 24 (0,0)) (by (with_reducible repeat first|apply bN|apply bD|apply bA);exact BK386.out) hg (Kd.R_ne HO_396000.out BK386.out (by decide)));have n3_:=Zz.mk (blk_grown (g:=gb387) (o:=.cells #[.slice none 0 0] 36 (0,0)) (by (with_reducible repeat first|apply bN|apply bD|apply bA);exact BK387.out) hg (Kd.R_ne HO_396000.out BK387.out (by decide)));have n4_:=Zz.mk (blk_grown (g:=gb395) (o:=.cells #[.slice Ao69 x396000_1.length co69] 36 (0,0)) (by (with_reducible repeat first|apply bN|apply bD|apply bA);exact BK395.out) hg (Kd.R_ne HO_396000.out BK395.out (by decide)));have n5_:=Zz.mk (blk_grown (g:=gb397) (o:=.cells #[.int .i64 ((rT l0_0 x24_1).f0),.int .i64 ((rT l0_0 x24_1).f1),.bool ((rT l0_0 x24_1).f2)] 62 (0,0)) (by (with_reducible repeat first|apply bN|apply bD|apply bA);exact BK397.out) hg (Kd.R_ne HO_396000.out BK397.out (by decide)));have n6_:=Zz.mk (blk_grown (g:=gb399) (o:=.cells #[.string ((rdOf ByteArray.empty t388 x24_1).extract (((rdOf ByteArray.empty t388 x10_2).size:Int):Int).toNat (rdOf ByteArray.empty t388 x24_1).size),.int .i64 (rd x6_1 x10_2),.bool ((rT l0_0 x24_1).f2)] 69 (0,0)) (by (with_reducible repeat first|apply bN|apply bD|apply bA);exact BK399.out) hg (Kd.R_away HO_396000.out (fun _ hk=>hk)));have n7_:=Zz.mk (hb);have n8_:=Zz.mk (ho);clear HO_3;clear HO_6;clear BK386;clear BK387;clear BK395;clear BK397;clear BK399;clear HB;clear HO_396000;have HO_3:=n0_;have HO_6:=n1_;have BK386:=n2_;have BK387:=n3_;have BK395:=n4_;have BK397:=n5_;have BK399:=n6_;have HB:=n7_;have HO407:=n8_;clear n0_ n1_ n2_ n3_ n4_ n5_ n6_ n7_ n8_;clear ho hb hg hat;obtain ⟨Ao77,co77,eo77⟩:=Kd.R_slice HO407.out;subst eo77;have hcz78_0:w76.cell? ⟨gb395,0,none⟩=some (.slice Ao69 x396000_1.length co69):=(bC BK395.out 0).trans rfl;have hfz78_0:=bF BK395.out 0))
                      go_roundg k2
                      case measure=>have:=HK1.out;have:=HK2.out;omega
                      case rel=>exact ⟨(y404),(wrap64 (x24_1+1)),(y405),(.slice Ao77 y405.length co77),(by first|rfl|(simp;done)|(simp [*];done)),H',⟨by have:=HK1.out;have:=HK2.out;omega⟩,⟨by (with_reducible repeat first|apply Kd.R_alloc|apply Kd.R_drewN|apply Kd.R_drew);exact Kd.R_mono (R_same_ (Kd.R_far (p:=⟨gb395,0,none⟩) (Kd.R_types HO_3.out BK395.out (by decide)) (fun _ hk=>hk.2) (.slice Ao77 y405.length co77)) rfl) (fun _ hk=>trivial)⟩,⟨by (with_reducible repeat first|apply Kd.R_alloc|apply Kd.R_drewN|apply Kd.R_drew);exact Kd.R_mono (R_same_ (Kd.R_far (p:=⟨gb395,0,none⟩) (Kd.R_types HO_6.out BK395.out (by decide)) (fun _ hk=>hk.2) (.slice Ao77 y405.length co77)) rfl) (fun _ hk=>trivial)⟩,⟨by (with_reducible repeat first|apply Kd.R_alloc|apply Kd.R_drewN|apply Kd.R_drew);exact Kd.R_mono (R_same_ (Kd.R_far (p:=⟨gb395,0,none⟩) (Kd.R_types HO407.out BK395.out (by decide)) (fun _ hk=>hk.2) (.slice Ao77 y405.length co77)) rfl) (fun _ hk=>trivial)⟩,⟨by (with_reducible repeat first|apply bN|apply bD|apply bA);refine blk_far ?_ NB386_395.out _;(with_reducible repeat first|apply bN|apply bD|apply bA);exact BK386.out⟩,⟨by (with_reducible repeat first|apply bN|apply bD|apply bA);refine blk_far ?_ NB387_395.out _;(with_reducible repeat first|apply bN|apply bD|apply bA);exact BK387.out⟩,⟨by (with_reducible repeat first|apply bN|apply bD|apply bA);refine blk_put (cs:=#[.slice Ao69 x396000_1.length co69]) ?_ 0 _ rfl;(with_reducible repeat first|apply bN|apply bD|apply bA);exact BK395.out⟩,⟨by repeat (first|(with_reducible first|exact HB.out|apply qA|apply qN|apply q1_|refine qS ?_ GE386.out|refine qS ?_ GE387.out|refine qS ?_ GE395.out|refine qS ?_ GE397.out|refine qS ?_ GE399.out)|exact HB.out)⟩⟩
                     ·rw [if_neg c52] at H
                      exact absurd H (by simp)
                    ·rw [if_neg c50] at H
                     exact absurd H (by simp)
                   ·rw [if_neg c49] at H
                    exact absurd H (by simp)
                  ·rw [if_neg c48] at H
                   exact absurd H (by simp)
                 ·rw [if_neg c47] at H
                  exact absurd H (by simp)
                ·rw [if_neg c46] at H
                 exact absurd H (by simp)
               ·rw [if_neg c45] at H
                exact absurd H (by simp)
              ·rw [if_neg c44] at H
               exact absurd H (by simp)
             ·rw [if_neg c43] at H
              exact absurd H (by simp)
            ·replace c42:=Bool.eq_false_iff.mpr c42
             subst c42
             have H1:(if 0≤x10_2 then (if x10_2<(l0_0.length:Int) then (impl_Trie_press.l1 k2 t388 x6_1 x24_1 ((rT l0_0 x10_2).f1) l0_0 (l0_0.length:Int) x24_1 l0_0 x396000_1 (⟨#[]⟩:ByteArray) (-1) ((rT l0_0 x24_1).f2)) else (none)) else (none))=some r:=by rw [if_neg (show ¬ (false=true) by decide)] at H;exact H
             clear H
             have H:=H1
             clear H1
             by_cases c79:0≤x10_2
             ·rw [if_pos c79] at H
              have c79b0:decide (0≤x10_2)=true:=decide_eq_true c79
              clear c79
              by_cases c80:x10_2<(l0_0.length:Int)
              ·rw [if_pos c80] at H
               have c80b0:decide (x10_2<(l0_0.length:Int))=true:=decide_eq_true c80
               clear c80
               have H':=Zz.mk H
               clear H
               have hnb81:=NB386_387.out
               have hnc81:=NB387_386.out
               have hnb82:=NB386_395.out
               have hnc82:=NB395_386.out
               have hnb83:=NB386_397.out
               have hnc83:=NB397_386.out
               have hnb84:=NB386_399.out
               have hnc84:=NB399_386.out
               have hcz85_0:wr.cell? ⟨gb386,0,none⟩=some (.slice (some ad396) l0_0.length c0_0):=(bC BK386.out 0).trans rfl
               have hfz85_0:=bF BK386.out 0
               go_wp2_with (first|((with_reducible refine gate_callee (f:=53) rfl ?_);refine goesL_ (some 42) rfl rfl Try.func53 (by kernel_rfl) rfl #[.agg #[.slice (some ad396) l0_0.length c0_0],.int .i64 x10_2] rfl (by (try simp only [List.map_toArray,List.map_cons,List.map_nil]);first|done|rfl|(simp only [List.length_drop,List.length_take];rfl)) ?_;(with_reducible refine (impl_Trie_stays.calls k2 _ _ l0_0 x10_2 false _ ?side1 ?side2 A41.out).mono ?_);(case side1=>repeat (first|exact (Kd.C_below HR0_0.out HB.out)|(with_reducible refine Kd.C_alloc ?_ _)|(with_reducible refine Kd.C_drewN ?_ _)|(with_reducible refine Kd.C_drew ?_)));(case side2=>exact HC0_0.out);rintro e w86 ⟨rfl,hb⟩;refine ⟨_,rfl,?_⟩;have n0_:=Zz.mk (Kd.R_below (by (with_reducible repeat first|apply Kd.R_alloc|apply Kd.R_drewN|apply Kd.R_drew);exact HO_3.out) hb);have n1_:=Zz.mk (Kd.R_below (by (with_reducible repeat first|apply Kd.R_alloc|apply Kd.R_drewN|apply Kd.R_drew);exact HO_6.out) hb);have n2_:=Zz.mk (Kd.R_below (by (with_reducible repeat first|apply Kd.R_alloc|apply Kd.R_drewN|apply Kd.R_drew);exact HO_396000.out) hb);have n3_:=Zz.mk (bB (g:=gb386) (o:=.cells #[.slice (some ad396) l0_0.length c0_0] 24 (0,0)) (by (with_reducible repeat first|apply bN|apply bD|apply bA);exact BK386.out) hb);have n4_:=Zz.mk (bB (g:=gb387) (o:=.cells #[.slice none 0 0] 36 (0,0)) (by (with_reducible repeat first|apply bN|apply bD|apply bA);exact BK387.out) hb);have n5_:=Zz.mk (bB (g:=gb395) (o:=.cells #[u396000] 36 (0,0)) (by (with_reducible repeat first|apply bN|apply bD|apply bA);exact BK395.out) hb);have n6_:=Zz.mk (bB (g:=gb397) (o:=.cells #[.int .i64 ((rT l0_0 x24_1).f0),.int .i64 ((rT l0_0 x24_1).f1),.bool ((rT l0_0 x24_1).f2)] 62 (0,0)) (by (with_reducible repeat first|apply bN|apply bD|apply bA);exact BK397.out) hb);have n7_:=Zz.mk (bB (g:=gb399) (o:=.cells #[.string (⟨#[]⟩:ByteArray),.int .i64 (-1),.bool ((rT l0_0 x24_1).f2)] 69 (0,0)) (by (with_reducible repeat first|apply bN|apply bD|apply bA);exact BK399.out) hb);have n8_:=Zz.mk (qP (by repeat (first|(with_reducible first|exact HB.out|apply qA|apply qN|apply q1_|refine qS ?_ GE386.out|refine qS ?_ GE387.out|refine qS ?_ GE395.out|refine qS ?_ GE397.out|refine qS ?_ GE399.out)|exact HB.out)) hb);clear HO_3;clear HO_6;clear HO_396000;clear BK386;clear BK387;clear BK395;clear BK397;clear BK399;clear HB;have HO_3:=n0_;have HO_6:=n1_;have HO_396000:=n2_;have BK386:=n3_;have BK387:=n4_;have BK395:=n5_;have BK397:=n6_;have BK399:=n7_;have HB:=n8_;clear n0_ n1_ n2_ n3_ n4_ n5_ n6_ n7_ n8_;(try clear hb);(try clear hb2);(try clear hk);(try clear hi);have hcz87_0:w86.cell? ⟨gb386,0,none⟩=some (.slice (some ad396) l0_0.length c0_0):=(bC BK386.out 0).trans rfl;have hfz87_0:=bF BK386.out 0;have p408:0≤(x10_2:Int):=of_decide_eq_true (by first|(with_reducible assumption)|assumption);have q408:x10_2<(l0_0.length:Int):=of_decide_eq_true (by first|(with_reducible assumption)|assumption);obtain ⟨ad408,e408,hx408_0,hx408_1,hx408_2⟩:=at_T62 HR0_0.out x10_2 p408 q408;obtain rfl:ad396=ad408:=(by injection e408);replace hx408_0:=(HB.out.cell (World.block_lt_of_cell? w _ hx408_0)).trans hx408_0;replace hx408_1:=(HB.out.cell (World.block_lt_of_cell? w _ hx408_1)).trans hx408_1;replace hx408_2:=(HB.out.cell (World.block_lt_of_cell? w _ hx408_2)).trans hx408_2;replace p408:=eq_true p408;replace q408:=eq_true q408))
               go_roundg k2
               case measure=>have:=HK1.out;have:=HK2.out;omega
               case rel=>exact ⟨((rT l0_0 x10_2).f1),(by first|rfl|(simp;done)|(simp [*];done)),H',⟨by have:=HK1.out;have:=HK2.out;omega⟩,⟨by (with_reducible repeat first|apply Kd.R_alloc|apply Kd.R_drewN|apply Kd.R_drew);exact HO_3.out⟩,⟨by (with_reducible repeat first|apply Kd.R_alloc|apply Kd.R_drewN|apply Kd.R_drew);exact HO_6.out⟩,⟨by (with_reducible repeat first|apply Kd.R_alloc|apply Kd.R_drewN|apply Kd.R_drew);exact HO_396000.out⟩,⟨by (with_reducible repeat first|apply bN|apply bD|apply bA);exact BK386.out⟩,⟨by (with_reducible repeat first|apply bN|apply bD|apply bA);exact BK387.out⟩,⟨by (with_reducible repeat first|apply bN|apply bD|apply bA);exact BK395.out⟩,⟨by (with_reducible repeat first|apply bN|apply bD|apply bA);exact BK397.out⟩,⟨by (with_reducible repeat first|apply bN|apply bD|apply bA);exact BK399.out⟩,⟨by repeat (first|(with_reducible first|exact HB.out|apply qA|apply qN|apply q1_|refine qS ?_ GE386.out|refine qS ?_ GE387.out|refine qS ?_ GE395.out|refine qS ?_ GE397.out|refine qS ?_ GE399.out)|exact HB.out)⟩⟩
              ·rw [if_neg c80] at H
               exact absurd H (by simp)
             ·rw [if_neg c79] at H
              exact absurd H (by simp)
         ·rw [if_neg c23] at H
          have c23b0:decide (0<x24_1)=false:=decide_eq_false c23
          clear c23
          by_cases c88:x24_1<(x6_1.length:Int)
          ·rw [if_pos c88] at H
           have c88b0:decide (x24_1<(x6_1.length:Int))=true:=decide_eq_true c88
           clear c88
           obtain ⟨y409,hy409⟩:∃ y_:List Int,y_=(x6_1.set (x24_1:Int).toNat (x396000_1.length:Int)):=⟨_,rfl⟩
           replace H:(if x396000_1.length<4398046511104 then (impl_Trie_press.l0 k1 t388 y409 l0_0 (l0_0.length:Int) (wrap64 (x24_1+1)) l0_0 (x396000_1 ++ [(⟨(⟨#[]⟩:ByteArray),(-1),(rT l0_0 x24_1).f2⟩:S69)])) else (none))=some r:=by first|(rw [hy409];with_reducible exact H)|(have H2_:=(Option.bind_some _ _).symm.trans H;rw [hy409];with_reducible exact H2_)|(have H2_:=(Option.bind_some _ _).symm.trans H;with_reducible exact H2_)|with_reducible exact H|(rw [hy409];exact H)|exact H
           have Ny409:=Zz.mk hy409
           clear hy409
           by_cases c90:x396000_1.length<4398046511104
           ·rw [if_pos c90] at H
            have LMc90:=Zz.mk c90
            clear c90
            obtain ⟨y410,hy410⟩:∃ y_:List (S69),y_=(x396000_1 ++ [(⟨(⟨#[]⟩:ByteArray),(-1),(rT l0_0 x24_1).f2⟩:S69)]):=⟨_,rfl⟩
            replace H:(impl_Trie_press.l0 k1 t388 y409 l0_0 (l0_0.length:Int) (wrap64 (x24_1+1)) l0_0 y410)=some r:=by first|(rw [hy410];with_reducible exact H)|(have H2_:=(Option.bind_some _ _).symm.trans H;rw [hy410];with_reducible exact H2_)|(have H2_:=(Option.bind_some _ _).symm.trans H;with_reducible exact H2_)|with_reducible exact H|(rw [hy410];exact H)|exact H
            have Ny410:=Zz.mk hy410
            clear hy410
            have H':=Zz.mk H
            clear H
            have p396:0≤(x24_1:Int):=of_decide_eq_true (by first|(with_reducible assumption)|assumption)
            have q396:x24_1<(l0_0.length:Int):=of_decide_eq_true (by first|(with_reducible assumption)|assumption)
            obtain ⟨ad396,e396,hx396_0,hx396_1,hx396_2⟩:=at_T62 HR0_0.out x24_1 p396 q396
            cases e396
            replace hx396_0:=(HB.out.cell (World.block_lt_of_cell? w _ hx396_0)).trans hx396_0
            replace hx396_1:=(HB.out.cell (World.block_lt_of_cell? w _ hx396_1)).trans hx396_1
            replace hx396_2:=(HB.out.cell (World.block_lt_of_cell? w _ hx396_2)).trans hx396_2
            replace p396:=eq_true p396
            replace q396:=eq_true q396
            go_wp2_with (first|((with_reducible refine gate_dst (N:=8) rfl ?_);refine box_event ?hg (N:=8) ?hd (cs:=#[.int .i64 0,.int .i64 0,.bool false]) (t:=62) ?hr ?_;(case hd=>rfl);(case hg=>rfl);(case hr=>first|(go_simp;done)|(go_simp;rfl));intro gb397 hg w91 hbox hb;have n0_:=Zz.mk (Kd.R_below (by (with_reducible repeat first|apply Kd.R_alloc|apply Kd.R_drewN|apply Kd.R_drew);exact HO_3.out) hb);have n1_:=Zz.mk (Kd.R_below (by (with_reducible repeat first|apply Kd.R_alloc|apply Kd.R_drewN|apply Kd.R_drew);exact HO_6.out) hb);have n2_:=Zz.mk (Kd.R_below (by (with_reducible repeat first|apply Kd.R_alloc|apply Kd.R_drewN|apply Kd.R_drew);exact HO_396000.out) hb);have n3_:=Zz.mk (bB (g:=gb386) (o:=.cells #[.slice (some ad396) l0_0.length c0_0] 24 (0,0)) (by (with_reducible repeat first|apply bN|apply bD|apply bA);exact BK386.out) hb);have n4_:=Zz.mk (bB (g:=gb387) (o:=.cells #[.slice none 0 0] 36 (0,0)) (by (with_reducible repeat first|apply bN|apply bD|apply bA);exact BK387.out) hb);have n5_:=Zz.mk (bB (g:=gb395) (o:=.cells #[u396000] 36 (0,0)) (by (with_reducible repeat first|apply bN|apply bD|apply bA);exact BK395.out) hb);have n6_:=Zz.mk (qP (by repeat (first|(with_reducible first|exact HB.out|apply qA|apply qN|apply q1_|refine qS ?_ GE386.out|refine qS ?_ GE387.out|refine qS ?_ GE395.out)|exact HB.out)) hb);have n7_:=Zz.mk (hbox);have n8_:=Zz.mk ((by rw [hg];exact (qZ (by repeat (first|(with_reducible first|exact HB.out|apply qA|apply qN|apply q1_|refine qS ?_ GE386.out|refine qS ?_ GE387.out|refine qS ?_ GE395.out)|exact HB.out))):w.heap.size≤gb397));have n9_:=Zz.mk ((by rw [hg];exact (qZ (by repeat (first|(with_reducible first|exact HB.out|apply qA|apply qN|apply q1_|refine qS ?_ GE386.out|refine qS ?_ GE387.out|refine qS ?_ GE395.out)|exact HB.out))):w.heap.size≤gb397));have n10_:=Zz.mk ((by rw [hg];exact Nat.ne_of_lt (blk_lt (g:=gb386) (o:=.cells #[.slice (some ad396) l0_0.length c0_0] 24 (0,0)) (by (with_reducible repeat first|apply bN|apply bD|apply bA);exact BK386.out)):gb386 ≠ gb397));have n11_:=Zz.mk ((by rw [hg];exact Nat.ne_of_gt (blk_lt (g:=gb386) (o:=.cells #[.slice (some ad396) l0_0.length c0_0] 24 (0,0)) (by (with_reducible repeat first|apply bN|apply bD|apply bA);exact BK386.out)):gb397 ≠ gb386));have n12_:=Zz.mk ((by rw [hg];exact Nat.ne_of_lt (blk_lt (g:=gb387) (o:=.cells #[.slice none 0 0] 36 (0,0)) (by (with_reducible repeat first|apply bN|apply bD|apply bA);exact BK387.out)):gb387 ≠ gb397));have n13_:=Zz.mk ((by rw [hg];exact Nat.ne_of_gt (blk_lt (g:=gb387) (o:=.cells #[.slice none 0 0] 36 (0,0)) (by (with_reducible repeat first|apply bN|apply bD|apply bA);exact BK387.out)):gb397 ≠ gb387));have n14_:=Zz.mk ((by rw [hg];exact Nat.ne_of_lt (blk_lt (g:=gb395) (o:=.cells #[u396000] 36 (0,0)) (by (with_reducible repeat first|apply bN|apply bD|apply bA);exact BK395.out)):gb395 ≠ gb397));have n15_:=Zz.mk ((by rw [hg];exact Nat.ne_of_gt (blk_lt (g:=gb395) (o:=.cells #[u396000] 36 (0,0)) (by (with_reducible repeat first|apply bN|apply bD|apply bA);exact BK395.out)):gb397 ≠ gb395));clear HO_3;clear HO_6;clear HO_396000;clear BK386;clear BK387;clear BK395;clear HB;have HO_3:=n0_;have HO_6:=n1_;have HO_396000:=n2_;have BK386:=n3_;have BK387:=n4_;have BK395:=n5_;have HB:=n6_;have BK397:=n7_;have GW397:=n8_;have GE397:=n9_;have NB386_397:=n10_;have NB397_386:=n11_;have NB387_397:=n12_;have NB397_387:=n13_;have NB395_397:=n14_;have NB397_395:=n15_;clear n0_ n1_ n2_ n3_ n4_ n5_ n6_ n7_ n8_ n9_ n10_ n11_ n12_ n13_ n14_ n15_;clear hb hbox hg;have hnb92:=NB397_386.out;have hnc92:=NB386_397.out;have hnb93:=NB397_387.out;have hnc93:=NB387_397.out;have hnb94:=NB397_395.out;have hnc94:=NB395_397.out;have hcz95_0:w91.cell? ⟨gb397,0,none⟩=some (.int .i64 0):=(bC BK397.out 0).trans rfl;have hcz95_1:w91.cell? ⟨gb397,1,none⟩=some (.int .i64 0):=(bC BK397.out 1).trans rfl;have hcz95_2:w91.cell? ⟨gb397,2,none⟩=some (.bool false):=(bC BK397.out 2).trans rfl;have hfz95_0:=bF BK397.out 0;have hfz95_1:=bF BK397.out 1;have hfz95_2:=bF BK397.out 2;have hnb96:=NB386_387.out;have hnc96:=NB387_386.out;have hnb97:=NB386_395.out;have hnc97:=NB395_386.out;have hcz98_0:w91.cell? ⟨gb386,0,none⟩=some (.slice (some ad396) l0_0.length c0_0):=(bC BK386.out 0).trans rfl;have hfz98_0:=bF BK386.out 0)|((with_reducible refine gate_callee (f:=53) rfl ?_);refine goesL_ (some 31) rfl rfl Try.func53 (by kernel_rfl) rfl #[.agg #[.slice (some ad396) l0_0.length c0_0],.int .i64 x24_1] rfl (by (try simp only [List.map_toArray,List.map_cons,List.map_nil]);first|done|rfl|(simp only [List.length_drop,List.length_take];rfl)) ?_;(with_reducible refine (impl_Trie_stays.calls k1 _ _ l0_0 x24_1 true _ ?side1 ?side2 A21.out).mono ?_);(case side1=>exact Kd.C_below HR0_0.out (by repeat (first|(with_reducible first|exact HB.out|apply qA|apply qN|apply q1_|refine qS ?_ GE386.out|refine qS ?_ GE387.out|refine qS ?_ GE395.out|refine qS ?_ GE397.out)|exact HB.out)));(case side2=>exact HC0_0.out);rintro e w99 ⟨rfl,hb⟩;refine ⟨_,rfl,?_⟩;have n0_:=Zz.mk (Kd.R_below (by (with_reducible repeat first|apply Kd.R_alloc|apply Kd.R_drewN|apply Kd.R_drew);exact (Kd.R_mono (R_same_ (Kd.R_far (p:=⟨gb397,2,none⟩) (Kd.R_far (p:=⟨gb397,1,none⟩) (Kd.R_far (p:=⟨gb397,0,none⟩) (Kd.R_types HO_3.out BK397.out (by decide)) (fun _ hk=>hk.2) (.int .i64 ((rT l0_0 x24_1).f0))) (fun _ hk=>hk.2) (.int .i64 ((rT l0_0 x24_1).f1))) (fun _ hk=>hk.2) (.bool ((rT l0_0 x24_1).f2))) rfl) (fun _ h_=>h_.1))) hb);have n1_:=Zz.mk (Kd.R_below (by (with_reducible repeat first|apply Kd.R_alloc|apply Kd.R_drewN|apply Kd.R_drew);exact (Kd.R_mono (R_same_ (Kd.R_far (p:=⟨gb397,2,none⟩) (Kd.R_far (p:=⟨gb397,1,none⟩) (Kd.R_far (p:=⟨gb397,0,none⟩) (Kd.R_types HO_6.out BK397.out (by decide)) (fun _ hk=>hk.2) (.int .i64 ((rT l0_0 x24_1).f0))) (fun _ hk=>hk.2) (.int .i64 ((rT l0_0 x24_1).f1))) (fun _ hk=>hk.2) (.bool ((rT l0_0 x24_1).f2))) rfl) (fun _ h_=>h_.1))) hb);have n2_:=Zz.mk (Kd.R_below (by (with_reducible repeat first|apply Kd.R_alloc|apply Kd.R_drewN|apply Kd.R_drew);exact (Kd.R_mono (R_same_ (Kd.R_far (p:=⟨gb397,2,none⟩) (Kd.R_far (p:=⟨gb397,1,none⟩) (Kd.R_far (p:=⟨gb397,0,none⟩) (Kd.R_types HO_396000.out BK397.out (by decide)) (fun _ hk=>hk.2) (.int .i64 ((rT l0_0 x24_1).f0))) (fun _ hk=>hk.2) (.int .i64 ((rT l0_0 x24_1).f1))) (fun _ hk=>hk.2) (.bool ((rT l0_0 x24_1).f2))) rfl) (fun _ h_=>h_.1))) hb);have n3_:=Zz.mk (bB (g:=gb386) (o:=.cells #[.slice (some ad396) l0_0.length c0_0] 24 (0,0)) (by (with_reducible repeat first|apply bN|apply bD|apply bA);refine blk_far ?_ NB386_397.out _;(with_reducible repeat first|apply bN|apply bD|apply bA);refine blk_far ?_ NB386_397.out _;(with_reducible repeat first|apply bN|apply bD|apply bA);refine blk_far ?_ NB386_397.out _;(with_reducible repeat first|apply bN|apply bD|apply bA);exact BK386.out) hb);have n4_:=Zz.mk (bB (g:=gb387) (o:=.cells #[.slice none 0 0] 36 (0,0)) (by (with_reducible repeat first|apply bN|apply bD|apply bA);refine blk_far ?_ NB387_397.out _;(with_reducible repeat first|apply bN|apply bD|apply bA);refine blk_far ?_ NB387_397.out _;(with_reducible repeat first|apply bN|apply bD|apply bA);refine blk_far ?_ NB387_397.out _;(with_reducible repeat first|apply bN|apply bD|apply bA);exact BK387.out) hb);have n5_:=Zz.mk (bB (g:=gb395) (o:=.cells #[u396000] 36 (0,0)) (by (with_reducible repeat first|apply bN|apply bD|apply bA);refine blk_far ?_ NB395_397.out _;(with_reducible repeat first|apply bN|apply bD|apply bA);refine blk_far ?_ NB395_397.out _;(with_reducible repeat first|apply bN|apply bD|apply bA);refine blk_far ?_ NB395_397.out _;(with_reducible repeat first|apply bN|apply bD|apply bA);exact BK395.out) hb);have n6_:=Zz.mk (bB (g:=gb397) (o:=.cells #[.int .i64 ((rT l0_0 x24_1).f0),.int .i64 ((rT l0_0 x24_1).f1),.bool ((rT l0_0 x24_1).f2)] 62 (0,0)) (by (with_reducible repeat first|apply bN|apply bD|apply bA);refine blk_put (cs:=#[.int .i64 ((rT l0_0 x24_1).f0),.int .i64 ((rT l0_0 x24_1).f1),.bool false]) ?_ 2 _ rfl;(with_reducible repeat first|apply bN|apply bD|apply bA);refine blk_put (cs:=#[.int .i64 ((rT l0_0 x24_1).f0),.int .i64 0,.bool false]) ?_ 1 _ rfl;(with_reducible repeat first|apply bN|apply bD|apply bA);refine blk_put (cs:=#[.int .i64 0,.int .i64 0,.bool false]) ?_ 0 _ rfl;(with_reducible repeat first|apply bN|apply bD|apply bA);exact BK397.out) hb);have n7_:=Zz.mk (qP (by repeat (first|(with_reducible first|exact HB.out|apply qA|apply qN|apply q1_|refine qS ?_ GE386.out|refine qS ?_ GE387.out|refine qS ?_ GE395.out|refine qS ?_ GE397.out)|exact HB.out)) hb);clear HO_3;clear HO_6;clear HO_396000;clear BK386;clear BK387;clear BK395;clear BK397;clear HB;have HO_3:=n0_;have HO_6:=n1_;have HO_396000:=n2_;have BK386:=n3_;have BK387:=n4_;have BK395:=n5_;have BK397:=n6_;have HB:=n7_;clear n0_ n1_ n2_ n3_ n4_ n5_ n6_ n7_;(try clear hb);(try clear hb2);(try clear hk);(try clear hi);have hcz100_0:w99.cell? ⟨gb397,0,none⟩=some (.int .i64 ((rT l0_0 x24_1).f0)):=(bC BK397.out 0).trans rfl;have hcz100_1:w99.cell? ⟨gb397,1,none⟩=some (.int .i64 ((rT l0_0 x24_1).f1)):=(bC BK397.out 1).trans rfl;have hcz100_2:w99.cell? ⟨gb397,2,none⟩=some (.bool ((rT l0_0 x24_1).f2)):=(bC BK397.out 2).trans rfl;have hfz100_0:=bF BK397.out 0;have hfz100_1:=bF BK397.out 1;have hfz100_2:=bF BK397.out 2)|((with_reducible refine gate_dst (N:=9) rfl ?_);refine box_event ?hg (N:=9) ?hd (cs:=#[.string (⟨#[]⟩:ByteArray),.int .i64 0,.bool false]) (t:=69) ?hr ?_;(case hd=>rfl);(case hg=>rfl);(case hr=>first|(go_simp;done)|(go_simp;rfl));intro gb399 hg w101 hbox hb;have n0_:=Zz.mk (Kd.R_below (by (with_reducible repeat first|apply Kd.R_alloc|apply Kd.R_drewN|apply Kd.R_drew);exact HO_3.out) hb);have n1_:=Zz.mk (Kd.R_below (by (with_reducible repeat first|apply Kd.R_alloc|apply Kd.R_drewN|apply Kd.R_drew);exact HO_6.out) hb);have n2_:=Zz.mk (Kd.R_below (Kd.R_elderB (by (with_reducible repeat first|apply Kd.R_alloc|apply Kd.R_drewN|apply Kd.R_drew);exact HO_396000.out) gb399 (Nat.le_of_eq hg.symm)) hb);have n3_:=Zz.mk (bB (g:=gb386) (o:=.cells #[.slice (some ad396) l0_0.length c0_0] 24 (0,0)) (by (with_reducible repeat first|apply bN|apply bD|apply bA);exact BK386.out) hb);have n4_:=Zz.mk (bB (g:=gb387) (o:=.cells #[.slice none 0 0] 36 (0,0)) (by (with_reducible repeat first|apply bN|apply bD|apply bA);exact BK387.out) hb);have n5_:=Zz.mk (bB (g:=gb395) (o:=.cells #[u396000] 36 (0,0)) (by (with_reducible repeat first|apply bN|apply bD|apply bA);exact BK395.out) hb);have n6_:=Zz.mk (bB (g:=gb397) (o:=.cells #[.int .i64 ((rT l0_0 x24_1).f0),.int .i64 ((rT l0_0 x24_1).f1),.bool ((rT l0_0 x24_1).f2)] 62 (0,0)) (by (with_reducible repeat first|apply bN|apply bD|apply bA);exact BK397.out) hb);have n7_:=Zz.mk (qP (by repeat (first|(with_reducible first|exact HB.out|apply qA|apply qN|apply q1_|refine qS ?_ GE386.out|refine qS ?_ GE387.out|refine qS ?_ GE395.out|refine qS ?_ GE397.out)|exact HB.out)) hb);have n8_:=Zz.mk (hbox);have n9_:=Zz.mk ((by rw [hg];exact (qZ (by repeat (first|(with_reducible first|exact HB.out|apply qA|apply qN|apply q1_|refine qS ?_ GE386.out|refine qS ?_ GE387.out|refine qS ?_ GE395.out|refine qS ?_ GE397.out)|exact HB.out))):w.heap.size≤gb399));have n10_:=Zz.mk ((by rw [hg];exact (qZ (by repeat (first|(with_reducible first|exact HB.out|apply qA|apply qN|apply q1_|refine qS ?_ GE386.out|refine qS ?_ GE387.out|refine qS ?_ GE395.out|refine qS ?_ GE397.out)|exact HB.out))):w.heap.size≤gb399));have n11_:=Zz.mk ((by rw [hg];exact Nat.ne_of_lt (blk_lt (g:=gb386) (o:=.cells #[.slice (some ad396) l0_0.length c0_0] 24 (0,0)) (by (with_reducible repeat first|apply bN|apply bD|apply bA);exact BK386.out)):gb386 ≠ gb399));have n12_:=Zz.mk ((by rw [hg];exact Nat.ne_of_gt (blk_lt (g:=gb386) (o:=.cells #[.slice (some ad396) l0_0.length c0_0] 24 (0,0)) (by (with_reducible repeat first|apply bN|apply bD|apply bA);exact BK386.out)):gb399 ≠ gb386));have n13_:=Zz.mk ((by rw [hg];exact Nat.ne_of_lt (blk_lt (g:=gb387) (o:=.cells #[.slice none 0 0] 36 (0,0)) (by (with_reducible repeat first|apply bN|apply bD|apply bA);exact BK387.out)):gb387 ≠ gb399));have n14_:=Zz.mk ((by rw [hg];exact Nat.ne_of_gt (blk_lt (g:=gb387) (o:=.cells #[.slice none 0 0] 36 (0,0)) (by (with_reducible repeat first|apply bN|apply bD|apply bA);exact BK387.out)):gb399 ≠ gb387));have n15_:=Zz.mk ((by rw [hg];exact Nat.ne_of_lt (blk_lt (g:=gb395) (o:=.cells #[u396000] 36 (0,0)) (by (with_reducible repeat first|apply bN|apply bD|apply bA);exact BK395.out)):gb395 ≠ gb399));have n16_:=Zz.mk ((by rw [hg];exact Nat.ne_of_gt (blk_lt (g:=gb395) (o:=.cells #[u396000] 36 (0,0)) (by (with_reducible repeat first|apply bN|apply bD|apply bA);exact BK395.out)):gb399 ≠ gb395));have n17_:=Zz.mk ((by rw [hg];exact Nat.ne_of_lt (blk_lt (g:=gb397) (o:=.cells #[.int .i64 ((rT l0_0 x24_1).f0),.int .i64 ((rT l0_0 x24_1).f1),.bool ((rT l0_0 x24_1).f2)] 62 (0,0)) (by (with_reducible repeat first|apply bN|apply bD|apply bA);exact BK397.out)):gb397 ≠ gb399));have n18_:=Zz.mk ((by rw [hg];exact Nat.ne_of_gt (blk_lt (g:=gb397) (o:=.cells #[.int .i64 ((rT l0_0 x24_1).f0),.int .i64 ((rT l0_0 x24_1).f1),.bool ((rT l0_0 x24_1).f2)] 62 (0,0)) (by (with_reducible repeat first|apply bN|apply bD|apply bA);exact BK397.out)):gb399 ≠ gb397));clear HO_3;clear HO_6;clear HO_396000;clear BK386;clear BK387;clear BK395;clear BK397;clear HB;have HO_3:=n0_;have HO_6:=n1_;have HO_396000:=n2_;have BK386:=n3_;have BK387:=n4_;have BK395:=n5_;have BK397:=n6_;have HB:=n7_;have BK399:=n8_;have GW399:=n9_;have GE399:=n10_;have NB386_399:=n11_;have NB399_386:=n12_;have NB387_399:=n13_;have NB399_387:=n14_;have NB395_399:=n15_;have NB399_395:=n16_;have NB397_399:=n17_;have NB399_397:=n18_;clear n0_ n1_ n2_ n3_ n4_ n5_ n6_ n7_ n8_ n9_ n10_ n11_ n12_ n13_ n14_ n15_ n16_ n17_ n18_;clear hb hbox hg;have hnb102:=NB399_386.out;have hnc102:=NB386_399.out;have hnb103:=NB399_387.out;have hnc103:=NB387_399.out;have hnb104:=NB399_395.out;have hnc104:=NB395_399.out;have hnb105:=NB399_397.out;have hnc105:=NB397_399.out;have hcz106_0:w101.cell? ⟨gb399,0,none⟩=some (.string (⟨#[]⟩:ByteArray)):=(bC BK399.out 0).trans rfl;have hcz106_1:w101.cell? ⟨gb399,1,none⟩=some (.int .i64 0):=(bC BK399.out 1).trans rfl;have hcz106_2:w101.cell? ⟨gb399,2,none⟩=some (.bool false):=(bC BK399.out 2).trans rfl;have hfz106_0:=bF BK399.out 0;have hfz106_1:=bF BK399.out 1;have hfz106_2:=bF BK399.out 2)|((with_reducible refine gate_store (t:=69) (p:=9) rfl ?_);refine store_event (t:=69) (p:=9) (v:=?vo_w107) (w1:=(((w101.setCell ⟨gb399,0,none⟩ (.string (⟨#[]⟩:ByteArray))).setCell ⟨gb399,1,none⟩ (.int .i64 (-1))).setCell ⟨gb399,2,none⟩ (.bool ((rT l0_0 x24_1).f2)))) ?hg ?ho ?hn ?hr ?_;(case ho=>rfl);(case hg=>rfl);(case hn=>rfl);(case hr=>first|(go_simp;done)|(go_simp;rfl));intro w107 hw;have n0_:Zz (Kd.R Kd.string 9 w107 w.heap.size (fun _=>True) v389 t388):=⟨(by rw [hw];exact (by (with_reducible repeat first|apply Kd.R_alloc|apply Kd.R_drewN|apply Kd.R_drew);exact Kd.R_mono (R_same_ (Kd.R_far (p:=⟨gb399,2,none⟩) (Kd.R_far (p:=⟨gb399,1,none⟩) (Kd.R_far (p:=⟨gb399,0,none⟩) (Kd.R_types HO_3.out BK399.out (by decide)) (fun _ hk=>hk.2) (.string (⟨#[]⟩:ByteArray))) (fun _ hk=>hk.2) (.int .i64 (-1))) (fun _ hk=>hk.2) (.bool ((rT l0_0 x24_1).f2))) rfl) (fun _ hk=>trivial)))⟩;have n1_:Zz (Kd.R (Kd.int .i64) 3 w107 w.heap.size (fun _=>True) v393 x6_1):=⟨(by rw [hw];exact (by (with_reducible repeat first|apply Kd.R_alloc|apply Kd.R_drewN|apply Kd.R_drew);exact Kd.R_mono (R_same_ (Kd.R_far (p:=⟨gb399,2,none⟩) (Kd.R_far (p:=⟨gb399,1,none⟩) (Kd.R_far (p:=⟨gb399,0,none⟩) (Kd.R_types HO_6.out BK399.out (by decide)) (fun _ hk=>hk.2) (.string (⟨#[]⟩:ByteArray))) (fun _ hk=>hk.2) (.int .i64 (-1))) (fun _ hk=>hk.2) (.bool ((rT l0_0 x24_1).f2))) rfl) (fun _ hk=>trivial)))⟩;have n2_:Zz (Kd.R k69 69 w107 w.heap.size (fun k_=>k_ ≠ gb399) u396000 x396000_1):=⟨(by rw [hw];exact (by (with_reducible repeat first|apply Kd.R_alloc|apply Kd.R_drewN|apply Kd.R_drew);exact Kd.R_mono (R_same_ (Kd.R_far (p:=⟨gb399,2,none⟩) (Kd.R_far (p:=⟨gb399,1,none⟩) (Kd.R_far (p:=⟨gb399,0,none⟩) (Kd.R_mono HO_396000.out (fun k_ hk=>(⟨hk,hk.2⟩:_∧k_ ≠ gb399))) (fun _ hk=>hk.2) (.string (⟨#[]⟩:ByteArray))) (fun _ hk=>hk.2) (.int .i64 (-1))) (fun _ hk=>hk.2) (.bool ((rT l0_0 x24_1).f2))) rfl) (fun _ hk=>hk.1.2)))⟩;have n3_:Zz (w107.heap[gb386]?=some (.cells #[.slice (some ad396) l0_0.length c0_0] 24 (0,0))):=⟨(by rw [hw];exact (by (with_reducible repeat first|apply bN|apply bD|apply bA);refine blk_far ?_ NB386_399.out _;(with_reducible repeat first|apply bN|apply bD|apply bA);refine blk_far ?_ NB386_399.out _;(with_reducible repeat first|apply bN|apply bD|apply bA);refine blk_far ?_ NB386_399.out _;(with_reducible repeat first|apply bN|apply bD|apply bA);exact BK386.out))⟩;have n4_:Zz (w107.heap[gb387]?=some (.cells #[.slice none 0 0] 36 (0,0))):=⟨(by rw [hw];exact (by (with_reducible repeat first|apply bN|apply bD|apply bA);refine blk_far ?_ NB387_399.out _;(with_reducible repeat first|apply bN|apply bD|apply bA);refine blk_far ?_ NB387_399.out _;(with_reducible repeat first|apply bN|apply bD|apply bA);refine blk_far ?_ NB387_399.out _;(with_reducible repeat first|apply bN|apply bD|apply bA);exact BK387.out))⟩;have n5_:Zz (w107.heap[gb395]?=some (.cells #[u396000] 36 (0,0))):=⟨(by rw [hw];exact (by (with_reducible repeat first|apply bN|apply bD|apply bA);refine blk_far ?_ NB395_399.out _;(with_reducible repeat first|apply bN|apply bD|apply bA);refine blk_far ?_ NB395_399.out _;(with_reducible repeat first|apply bN|apply bD|apply bA);refine blk_far ?_ NB395_399.out _;(with_reducible repeat first|apply bN|apply bD|apply bA);exact BK395.out))⟩;have n6_:Zz (w107.heap[gb397]?=some (.cells #[.int .i64 ((rT l0_0 x24_1).f0),.int .i64 ((rT l0_0 x24_1).f1),.bool ((rT l0_0 x24_1).f2)] 62 (0,0))):=⟨(by rw [hw];exact (by (with_reducible repeat first|apply bN|apply bD|apply bA);refine blk_far ?_ NB397_399.out _;(with_reducible repeat first|apply bN|apply bD|apply bA);refine blk_far ?_ NB397_399.out _;(with_reducible repeat first|apply bN|apply bD|apply bA);refine blk_far ?_ NB397_399.out _;(with_reducible repeat first|apply bN|apply bD|apply bA);exact BK397.out))⟩;have n7_:Zz (w107.heap[gb399]?=some (.cells #[.string (⟨#[]⟩:ByteArray),.int .i64 (-1),.bool ((rT l0_0 x24_1).f2)] 69 (0,0))):=⟨(by rw [hw];exact (by (with_reducible repeat first|apply bN|apply bD|apply bA);refine blk_put (cs:=#[.string (⟨#[]⟩:ByteArray),.int .i64 (-1),.bool false]) ?_ 2 _ rfl;(with_reducible repeat first|apply bN|apply bD|apply bA);refine blk_put (cs:=#[.string (⟨#[]⟩:ByteArray),.int .i64 0,.bool false]) ?_ 1 _ rfl;(with_reducible repeat first|apply bN|apply bD|apply bA);refine blk_put (cs:=#[.string (⟨#[]⟩:ByteArray),.int .i64 0,.bool false]) ?_ 0 _ rfl;(with_reducible repeat first|apply bN|apply bD|apply bA);exact BK399.out))⟩;have n8_:Zz (Below w.heap.size w w107):=⟨(by rw [hw];exact (by repeat (first|(with_reducible first|exact HB.out|apply qA|apply qN|apply q1_|refine qS ?_ GE386.out|refine qS ?_ GE387.out|refine qS ?_ GE395.out|refine qS ?_ GE397.out|refine qS ?_ GE399.out)|exact HB.out)))⟩;clear hw;clear HO_3;clear HO_6;clear HO_396000;clear BK386;clear BK387;clear BK395;clear BK397;clear BK399;clear HB;have HO_3:=n0_;have HO_6:=n1_;have HO_396000:=n2_;have BK386:=n3_;have BK387:=n4_;have BK395:=n5_;have BK397:=n6_;have BK399:=n7_;have HB:=n8_;clear n0_ n1_ n2_ n3_ n4_ n5_ n6_ n7_ n8_;have hnb108:=NB395_387.out;have hnc108:=NB387_395.out;have hcz109_0:w107.cell? ⟨gb395,0,none⟩=some (u396000):=(bC BK395.out 0).trans rfl;have hfz109_0:=bF BK395.out 0;obtain ⟨Ao110,co110,eo110⟩:=Kd.R_slice HO_396000.out;subst eo110;have p89:0≤(x24_1:Int):=of_decide_eq_true (by first|(with_reducible assumption)|assumption);have q89:(x24_1:Int)<((x6_1.length:Int):Int):=of_decide_eq_true (by first|(with_reducible assumption)|assumption);obtain ⟨go89,co89,eo89,gb89,gl89,cl89,HG89⟩:=Kd.R_form HO_6.out (by omega);(first|cases eo89|(injection eo89 with ea_ en_ ec_;(first|subst ea_|(injection ea_ with ea_;subst ea_));subst ec_;clear en_));have GB89:=Zz.mk gb89;have GG89:=Zz.mk HG89;clear gb89 gl89 HG89;obtain ⟨hx89_0,hf89_0⟩:=Kd.R_celln 0 HO_6.out (x24_1:Int) p89 q89;(try simp only [Int.toNat_natCast] at hx89_0 hf89_0);replace p89:=eq_true p89;replace q89:=eq_true q89;obtain ⟨hy111_,hz111_⟩:=Kd.R_celln 0 HO_6.out (x24_1:Int) (of_decide_eq_true (by first|(with_reducible assumption)|assumption)) (of_decide_eq_true (by first|(with_reducible assumption)|assumption));(try simp only [Int.toNat_natCast] at hy111_ hz111_);have HP111:=Kd.R_putg HO_6.out (x24_1:Int) (x396000_1.length:Int))|((with_reducible refine gate_store (t:=3) (p:=71) rfl ?_);refine store_event (t:=3) (p:=71) (v:=?vo_w112) (w1:=(w107.setCell ⟨go89,(x24_1:Int).toNat,none⟩ (.int .i64 (x396000_1.length:Int)))) ?hg ?ho ?hn ?hr ?_;(case ho=>rfl);(case hg=>rfl);(case hn=>rfl);(case hr=>first|(go_simp;done)|(go_simp;rfl));intro w112 hw;have hg:w107.grownBy w112 (some go89):=(by rw [hw];exact HP111.2);have hp_:Kd.R (Kd.int .i64) 3 w112 w.heap.size (fun _=>True) (.slice (some ⟨go89,0,none⟩) x6_1.length co89) y409:=(by rw [hw,Ny409.out];exact HP111.1);clear HP111;have n0_:=Zz.mk (Kd.R_over' (v:=(.slice (some ⟨go89,0,none⟩) x6_1.length co89)) (by (with_reducible repeat first|apply Kd.R_alloc|apply Kd.R_drewN|apply Kd.R_drew);exact HO_3.out) (Kd.R_typed HO_6.out) (by decide) hg);have n1_:=Zz.mk (hp_);have n2_:=Zz.mk (Kd.R_over' (v:=(.slice (some ⟨go89,0,none⟩) x6_1.length co89)) (by (with_reducible repeat first|apply Kd.R_alloc|apply Kd.R_drewN|apply Kd.R_drew);exact HO_396000.out) (Kd.R_typed HO_6.out) (by decide) hg);have n3_:=Zz.mk (blk_grown (g:=gb386) (o:=.cells #[.slice (some ad396) l0_0.length c0_0] 24 (0,0)) (by (with_reducible repeat first|apply bN|apply bD|apply bA);exact BK386.out) hg (Kd.R_ne HO_6.out BK386.out (by decide)));have n4_:=Zz.mk (blk_grown (g:=gb387) (o:=.cells #[.slice none 0 0] 36 (0,0)) (by (with_reducible repeat first|apply bN|apply bD|apply bA);exact BK387.out) hg (Kd.R_ne HO_6.out BK387.out (by decide)));have n5_:=Zz.mk (blk_grown (g:=gb395) (o:=.cells #[.slice Ao110 x396000_1.length co110] 36 (0,0)) (by (with_reducible repeat first|apply bN|apply bD|apply bA);exact BK395.out) hg (Kd.R_ne HO_6.out BK395.out (by decide)));have n6_:=Zz.mk (blk_grown (g:=gb397) (o:=.cells #[.int .i64 ((rT l0_0 x24_1).f0),.int .i64 ((rT l0_0 x24_1).f1),.bool ((rT l0_0 x24_1).f2)] 62 (0,0)) (by (with_reducible repeat first|apply bN|apply bD|apply bA);exact BK397.out) hg (Kd.R_ne HO_6.out BK397.out (by decide)));have n7_:=Zz.mk (blk_grown (g:=gb399) (o:=.cells #[.string (⟨#[]⟩:ByteArray),.int .i64 (-1),.bool ((rT l0_0 x24_1).f2)] 69 (0,0)) (by (with_reducible repeat first|apply bN|apply bD|apply bA);exact BK399.out) hg (Kd.R_ne HO_6.out BK399.out (by decide)));have n8_:=Zz.mk ((by rw [hw];exact qS (HB.out) GB89.out:Below w.heap.size w w112));clear HO_3;clear HO_6;clear HO_396000;clear BK386;clear BK387;clear BK395;clear BK397;clear BK399;clear HB;have HO_3:=n0_;have HO_6:=n1_;have HO_396000:=n2_;have BK386:=n3_;have BK387:=n4_;have BK395:=n5_;have BK397:=n6_;have BK399:=n7_;have HB:=n8_;clear n0_ n1_ n2_ n3_ n4_ n5_ n6_ n7_ n8_;clear hg hw hp_;have hcz113_0:w112.cell? ⟨gb395,0,none⟩=some (.slice Ao110 x396000_1.length co110):=(bC BK395.out 0).trans rfl;have hfz113_0:=bF BK395.out 0;have hcz114_0:w112.cell? ⟨gb399,0,none⟩=some (.string (⟨#[]⟩:ByteArray)):=(bC BK399.out 0).trans rfl;have hcz114_1:w112.cell? ⟨gb399,1,none⟩=some (.int .i64 (-1)):=(bC BK399.out 1).trans rfl;have hcz114_2:w112.cell? ⟨gb399,2,none⟩=some (.bool ((rT l0_0 x24_1).f2)):=(bC BK399.out 2).trans rfl;have hfz114_0:=bF BK399.out 0;have hfz114_1:=bF BK399.out 1;have hfz114_2:=bF BK399.out 2)|((with_reducible refine gate_builtin (b:=.append) (xs:=#[.tmp 73,.tmp 75]) rfl ?_);at_builtin;refine Kd.R_append k69 (w0:=w) w.heap.size rfl (.tmp 73) (.tmp 75) 34 69 (.agg #[(.string ⟨#[]⟩),(.int .i64 0),(.bool false)]) 32 rfl Try.underlying34 info69 rfl (by decide) (by omega) (.slice Ao110 x396000_1.length co110) x396000_1 (⟨(⟨#[]⟩:ByteArray),(-1),(rT l0_0 x24_1).f2⟩:S69) [.string (⟨#[]⟩:ByteArray),.int .i64 (-1),.bool ((rT l0_0 x24_1).f2)] (fun k_=>k_ ≠ gb399) (fun _=>False) rfl rfl ?aP (fun _ hk=>hk.elim) ?aF ?aO ?aB ?aS ?aL ?_;(case aP=>exact k69_mkM _ _ _ (⟨(⟨#[]⟩:ByteArray),(-1),(rT l0_0 x24_1).f2⟩:S69));(case aB=>exact (by repeat (first|(with_reducible first|exact HB.out|apply qA|apply qN|apply q1_|refine qS ?_ GE386.out|refine qS ?_ GE387.out|refine qS ?_ GE395.out|refine qS ?_ GE397.out|refine qS ?_ GE399.out)|exact HB.out)));(case aF=>exact (fun k_ hk=>Kd.freshB (g:=gb399) (o:=.cells #[.string (⟨#[]⟩:ByteArray),.int .i64 (-1),.bool ((rT l0_0 x24_1).f2)] 69 (0,0)) (by (with_reducible repeat first|apply bN|apply bD|apply bA);exact BK399.out) k_ hk));(case aO=>exact (by (with_reducible repeat first|apply Kd.R_alloc|apply Kd.R_drewN|apply Kd.R_drew);exact HO_396000.out));(case aS=>exact (qZ (by repeat (first|(with_reducible first|exact HB.out|apply qA|apply qN|apply q1_|refine qS ?_ GE386.out|refine qS ?_ GE387.out|refine qS ?_ GE395.out|refine qS ?_ GE397.out|refine qS ?_ GE399.out)|exact HB.out))));(case aL=>have:=LMc90.out;omega);intro v411 w115 ho hb hg hat;rw [← Ny410.out] at ho;have n0_:=Zz.mk (Kd.R_over' (by (with_reducible repeat first|apply Kd.R_alloc|apply Kd.R_drewN|apply Kd.R_drew);exact HO_3.out) (Kd.R_typed (by (with_reducible repeat first|apply Kd.R_alloc|apply Kd.R_drewN|apply Kd.R_drew);exact HO_396000.out)) (by decide) hg);have n1_:=Zz.mk (Kd.R_over' (by (with_reducible repeat first|apply Kd.R_alloc|apply Kd.R_drewN|apply Kd.R_drew);exact HO_6.out) (Kd.R_typed (by (with_reducible repeat first|apply Kd.R_alloc|apply Kd.R_drewN|apply Kd.R_drew);exact HO_396000.out)) (by decide) hg);have n2_:=Zz.mk (blk_grown (g:=gb386) (o:=.cells #[.slice (some ad396) l0_0.length c0_0] 24 (0,0)) (by (with_reducible repeat first|apply bN|apply bD|apply bA);exact BK386.out) hg (Kd.R_ne HO_396000.out BK386.out (by decide)));have n3_:=Zz.mk (blk_grown (g:=gb387) (o:=.cells #[.slice none 0 0] 36 (0,0)) (by (with_reducible repeat first|apply bN|apply bD|apply bA);exact BK387.out) hg (Kd.R_ne HO_396000.out BK387.out (by decide)));have n4_:=Zz.mk (blk_grown (g:=gb395) (o:=.cells #[.slice Ao110 x396000_1.length co110] 36 (0,0)) (by (with_reducible repeat first|apply bN|apply bD|apply bA);exact BK395.out) hg (Kd.R_ne HO_396000.out BK395.out (by decide)));have n5_:=Zz.mk (blk_grown (g:=gb397) (o:=.cells #[.int .i64 ((rT l0_0 x24_1).f0),.int .i64 ((rT l0_0 x24_1).f1),.bool ((rT l0_0 x24_1).f2)] 62 (0,0)) (by (with_reducible repeat first|apply bN|apply bD|apply bA);exact BK397.out) hg (Kd.R_ne HO_396000.out BK397.out (by decide)));have n6_:=Zz.mk (blk_grown (g:=gb399) (o:=.cells #[.string (⟨#[]⟩:ByteArray),.int .i64 (-1),.bool ((rT l0_0 x24_1).f2)] 69 (0,0)) (by (with_reducible repeat first|apply bN|apply bD|apply bA);exact BK399.out) hg (Kd.R_away HO_396000.out (fun _ hk=>hk)));have n7_:=Zz.mk (hb);have n8_:=Zz.mk (ho);clear HO_3;clear HO_6;clear BK386;clear BK387;clear BK395;clear BK397;clear BK399;clear HB;clear HO_396000;have HO_3:=n0_;have HO_6:=n1_;have BK386:=n2_;have BK387:=n3_;have BK395:=n4_;have BK397:=n5_;have BK399:=n6_;have HB:=n7_;have HO412:=n8_;clear n0_ n1_ n2_ n3_ n4_ n5_ n6_ n7_ n8_;clear ho hb hg hat;obtain ⟨Ao116,co116,eo116⟩:=Kd.R_slice HO412.out;subst eo116;have hcz117_0:w115.cell? ⟨gb395,0,none⟩=some (.slice Ao110 x396000_1.length co110):=(bC BK395.out 0).trans rfl;have hfz117_0:=bF BK395.out 0))
            go_roundg k1
            case measure=>have:=HK1.out;omega
            case rel=>exact ⟨(y409),(wrap64 (x24_1+1)),(y410),(.slice Ao116 y410.length co116),(by first|rfl|(simp;done)|(simp [*];done)),H',⟨by have:=HK1.out;omega⟩,⟨by (with_reducible repeat first|apply Kd.R_alloc|apply Kd.R_drewN|apply Kd.R_drew);exact Kd.R_mono (R_same_ (Kd.R_far (p:=⟨gb395,0,none⟩) (Kd.R_types HO_3.out BK395.out (by decide)) (fun _ hk=>hk.2) (.slice Ao116 y410.length co116)) rfl) (fun _ hk=>trivial)⟩,⟨by (with_reducible repeat first|apply Kd.R_alloc|apply Kd.R_drewN|apply Kd.R_drew);exact Kd.R_mono (R_same_ (Kd.R_far (p:=⟨gb395,0,none⟩) (Kd.R_types HO_6.out BK395.out (by decide)) (fun _ hk=>hk.2) (.slice Ao116 y410.length co116)) rfl) (fun _ hk=>trivial)⟩,⟨by (with_reducible repeat first|apply Kd.R_alloc|apply Kd.R_drewN|apply Kd.R_drew);exact Kd.R_mono (R_same_ (Kd.R_far (p:=⟨gb395,0,none⟩) (Kd.R_types HO412.out BK395.out (by decide)) (fun _ hk=>hk.2) (.slice Ao116 y410.length co116)) rfl) (fun _ hk=>trivial)⟩,⟨by (with_reducible repeat first|apply bN|apply bD|apply bA);refine blk_far ?_ NB386_395.out _;(with_reducible repeat first|apply bN|apply bD|apply bA);exact BK386.out⟩,⟨by (with_reducible repeat first|apply bN|apply bD|apply bA);refine blk_far ?_ NB387_395.out _;(with_reducible repeat first|apply bN|apply bD|apply bA);exact BK387.out⟩,⟨by (with_reducible repeat first|apply bN|apply bD|apply bA);refine blk_put (cs:=#[.slice Ao110 x396000_1.length co110]) ?_ 0 _ rfl;(with_reducible repeat first|apply bN|apply bD|apply bA);exact BK395.out⟩,⟨by repeat (first|(with_reducible first|exact HB.out|apply qA|apply qN|apply q1_|refine qS ?_ GE386.out|refine qS ?_ GE387.out|refine qS ?_ GE395.out|refine qS ?_ GE397.out|refine qS ?_ GE399.out)|exact HB.out)⟩⟩
           ·rw [if_neg c90] at H
            exact absurd H (by simp)
          ·rw [if_neg c88] at H
           exact absurd H (by simp)
        ·replace c22:=Bool.eq_false_iff.mpr c22
         subst c22
         have H1:(impl_Trie_press.l0 k1 t388 x6_1 l0_0 (l0_0.length:Int) (wrap64 (x24_1+1)) l0_0 x396000_1)=some r:=by rw [if_neg (show ¬ (false=true) by decide)] at H;exact H
         clear H
         have H:=H1
         clear H1
         have H':=Zz.mk H
         clear H
         have p396:0≤(x24_1:Int):=of_decide_eq_true (by first|(with_reducible assumption)|assumption)
         have q396:x24_1<(l0_0.length:Int):=of_decide_eq_true (by first|(with_reducible assumption)|assumption)
         obtain ⟨ad396,e396,hx396_0,hx396_1,hx396_2⟩:=at_T62 HR0_0.out x24_1 p396 q396
         cases e396
         replace hx396_0:=(HB.out.cell (World.block_lt_of_cell? w _ hx396_0)).trans hx396_0
         replace hx396_1:=(HB.out.cell (World.block_lt_of_cell? w _ hx396_1)).trans hx396_1
         replace hx396_2:=(HB.out.cell (World.block_lt_of_cell? w _ hx396_2)).trans hx396_2
         replace p396:=eq_true p396
         replace q396:=eq_true q396
         go_wp2_with (first|((with_reducible refine gate_dst (N:=8) rfl ?_);refine box_event ?hg (N:=8) ?hd (cs:=#[.int .i64 0,.int .i64 0,.bool false]) (t:=62) ?hr ?_;(case hd=>rfl);(case hg=>rfl);(case hr=>first|(go_simp;done)|(go_simp;rfl));intro gb397 hg w118 hbox hb;have n0_:=Zz.mk (Kd.R_below (by (with_reducible repeat first|apply Kd.R_alloc|apply Kd.R_drewN|apply Kd.R_drew);exact HO_3.out) hb);have n1_:=Zz.mk (Kd.R_below (by (with_reducible repeat first|apply Kd.R_alloc|apply Kd.R_drewN|apply Kd.R_drew);exact HO_6.out) hb);have n2_:=Zz.mk (Kd.R_below (by (with_reducible repeat first|apply Kd.R_alloc|apply Kd.R_drewN|apply Kd.R_drew);exact HO_396000.out) hb);have n3_:=Zz.mk (bB (g:=gb386) (o:=.cells #[.slice (some ad396) l0_0.length c0_0] 24 (0,0)) (by (with_reducible repeat first|apply bN|apply bD|apply bA);exact BK386.out) hb);have n4_:=Zz.mk (bB (g:=gb387) (o:=.cells #[.slice none 0 0] 36 (0,0)) (by (with_reducible repeat first|apply bN|apply bD|apply bA);exact BK387.out) hb);have n5_:=Zz.mk (bB (g:=gb395) (o:=.cells #[u396000] 36 (0,0)) (by (with_reducible repeat first|apply bN|apply bD|apply bA);exact BK395.out) hb);have n6_:=Zz.mk (qP (by repeat (first|(with_reducible first|exact HB.out|apply qA|apply qN|apply q1_|refine qS ?_ GE386.out|refine qS ?_ GE387.out|refine qS ?_ GE395.out)|exact HB.out)) hb);have n7_:=Zz.mk (hbox);have n8_:=Zz.mk ((by rw [hg];exact (qZ (by repeat (first|(with_reducible first|exact HB.out|apply qA|apply qN|apply q1_|refine qS ?_ GE386.out|refine qS ?_ GE387.out|refine qS ?_ GE395.out)|exact HB.out))):w.heap.size≤gb397));have n9_:=Zz.mk ((by rw [hg];exact (qZ (by repeat (first|(with_reducible first|exact HB.out|apply qA|apply qN|apply q1_|refine qS ?_ GE386.out|refine qS ?_ GE387.out|refine qS ?_ GE395.out)|exact HB.out))):w.heap.size≤gb397));have n10_:=Zz.mk ((by rw [hg];exact Nat.ne_of_lt (blk_lt (g:=gb386) (o:=.cells #[.slice (some ad396) l0_0.length c0_0] 24 (0,0)) (by (with_reducible repeat first|apply bN|apply bD|apply bA);exact BK386.out)):gb386 ≠ gb397));have n11_:=Zz.mk ((by rw [hg];exact Nat.ne_of_gt (blk_lt (g:=gb386) (o:=.cells #[.slice (some ad396) l0_0.length c0_0] 24 (0,0)) (by (with_reducible repeat first|apply bN|apply bD|apply bA);exact BK386.out)):gb397 ≠ gb386));have n12_:=Zz.mk ((by rw [hg];exact Nat.ne_of_lt (blk_lt (g:=gb387) (o:=.cells #[.slice none 0 0] 36 (0,0)) (by (with_reducible repeat first|apply bN|apply bD|apply bA);exact BK387.out)):gb387 ≠ gb397));have n13_:=Zz.mk ((by rw [hg];exact Nat.ne_of_gt (blk_lt (g:=gb387) (o:=.cells #[.slice none 0 0] 36 (0,0)) (by (with_reducible repeat first|apply bN|apply bD|apply bA);exact BK387.out)):gb397 ≠ gb387));have n14_:=Zz.mk ((by rw [hg];exact Nat.ne_of_lt (blk_lt (g:=gb395) (o:=.cells #[u396000] 36 (0,0)) (by (with_reducible repeat first|apply bN|apply bD|apply bA);exact BK395.out)):gb395 ≠ gb397));have n15_:=Zz.mk ((by rw [hg];exact Nat.ne_of_gt (blk_lt (g:=gb395) (o:=.cells #[u396000] 36 (0,0)) (by (with_reducible repeat first|apply bN|apply bD|apply bA);exact BK395.out)):gb397 ≠ gb395));clear HO_3;clear HO_6;clear HO_396000;clear BK386;clear BK387;clear BK395;clear HB;have HO_3:=n0_;have HO_6:=n1_;have HO_396000:=n2_;have BK386:=n3_;have BK387:=n4_;have BK395:=n5_;have HB:=n6_;have BK397:=n7_;have GW397:=n8_;have GE397:=n9_;have NB386_397:=n10_;have NB397_386:=n11_;have NB387_397:=n12_;have NB397_387:=n13_;have NB395_397:=n14_;have NB397_395:=n15_;clear n0_ n1_ n2_ n3_ n4_ n5_ n6_ n7_ n8_ n9_ n10_ n11_ n12_ n13_ n14_ n15_;clear hb hbox hg;have hnb119:=NB397_386.out;have hnc119:=NB386_397.out;have hnb120:=NB397_387.out;have hnc120:=NB387_397.out;have hnb121:=NB397_395.out;have hnc121:=NB395_397.out;have hcz122_0:w118.cell? ⟨gb397,0,none⟩=some (.int .i64 0):=(bC BK397.out 0).trans rfl;have hcz122_1:w118.cell? ⟨gb397,1,none⟩=some (.int .i64 0):=(bC BK397.out 1).trans rfl;have hcz122_2:w118.cell? ⟨gb397,2,none⟩=some (.bool false):=(bC BK397.out 2).trans rfl;have hfz122_0:=bF BK397.out 0;have hfz122_1:=bF BK397.out 1;have hfz122_2:=bF BK397.out 2;have hnb123:=NB386_387.out;have hnc123:=NB387_386.out;have hnb124:=NB386_395.out;have hnc124:=NB395_386.out;have hcz125_0:w118.cell? ⟨gb386,0,none⟩=some (.slice (some ad396) l0_0.length c0_0):=(bC BK386.out 0).trans rfl;have hfz125_0:=bF BK386.out 0)|((with_reducible refine gate_callee (f:=53) rfl ?_);refine goesL_ (some 31) rfl rfl Try.func53 (by kernel_rfl) rfl #[.agg #[.slice (some ad396) l0_0.length c0_0],.int .i64 x24_1] rfl (by (try simp only [List.map_toArray,List.map_cons,List.map_nil]);first|done|rfl|(simp only [List.length_drop,List.length_take];rfl)) ?_;(with_reducible refine (impl_Trie_stays.calls k1 _ _ l0_0 x24_1 false _ ?side1 ?side2 A21.out).mono ?_);(case side1=>exact Kd.C_below HR0_0.out (by repeat (first|(with_reducible first|exact HB.out|apply qA|apply qN|apply q1_|refine qS ?_ GE386.out|refine qS ?_ GE387.out|refine qS ?_ GE395.out|refine qS ?_ GE397.out)|exact HB.out)));(case side2=>exact HC0_0.out);rintro e w126 ⟨rfl,hb⟩;refine ⟨_,rfl,?_⟩;have n0_:=Zz.mk (Kd.R_below (by (with_reducible repeat first|apply Kd.R_alloc|apply Kd.R_drewN|apply Kd.R_drew);exact (Kd.R_mono (R_same_ (Kd.R_far (p:=⟨gb397,2,none⟩) (Kd.R_far (p:=⟨gb397,1,none⟩) (Kd.R_far (p:=⟨gb397,0,none⟩) (Kd.R_types HO_3.out BK397.out (by decide)) (fun _ hk=>hk.2) (.int .i64 ((rT l0_0 x24_1).f0))) (fun _ hk=>hk.2) (.int .i64 ((rT l0_0 x24_1).f1))) (fun _ hk=>hk.2) (.bool ((rT l0_0 x24_1).f2))) rfl) (fun _ h_=>h_.1))) hb);have n1_:=Zz.mk (Kd.R_below (by (with_reducible repeat first|apply Kd.R_alloc|apply Kd.R_drewN|apply Kd.R_drew);exact (Kd.R_mono (R_same_ (Kd.R_far (p:=⟨gb397,2,none⟩) (Kd.R_far (p:=⟨gb397,1,none⟩) (Kd.R_far (p:=⟨gb397,0,none⟩) (Kd.R_types HO_6.out BK397.out (by decide)) (fun _ hk=>hk.2) (.int .i64 ((rT l0_0 x24_1).f0))) (fun _ hk=>hk.2) (.int .i64 ((rT l0_0 x24_1).f1))) (fun _ hk=>hk.2) (.bool ((rT l0_0 x24_1).f2))) rfl) (fun _ h_=>h_.1))) hb);have n2_:=Zz.mk (Kd.R_below (by (with_reducible repeat first|apply Kd.R_alloc|apply Kd.R_drewN|apply Kd.R_drew);exact (Kd.R_mono (R_same_ (Kd.R_far (p:=⟨gb397,2,none⟩) (Kd.R_far (p:=⟨gb397,1,none⟩) (Kd.R_far (p:=⟨gb397,0,none⟩) (Kd.R_types HO_396000.out BK397.out (by decide)) (fun _ hk=>hk.2) (.int .i64 ((rT l0_0 x24_1).f0))) (fun _ hk=>hk.2) (.int .i64 ((rT l0_0 x24_1).f1))) (fun _ hk=>hk.2) (.bool ((rT l0_0 x24_1).f2))) rfl) (fun _ h_=>h_.1))) hb);have n3_:=Zz.mk (bB (g:=gb386) (o:=.cells #[.slice (some ad396) l0_0.length c0_0] 24 (0,0)) (by (with_reducible repeat first|apply bN|apply bD|apply bA);refine blk_far ?_ NB386_397.out _;(with_reducible repeat first|apply bN|apply bD|apply bA);refine blk_far ?_ NB386_397.out _;(with_reducible repeat first|apply bN|apply bD|apply bA);refine blk_far ?_ NB386_397.out _;(with_reducible repeat first|apply bN|apply bD|apply bA);exact BK386.out) hb);have n4_:=Zz.mk (bB (g:=gb387) (o:=.cells #[.slice none 0 0] 36 (0,0)) (by (with_reducible repeat first|apply bN|apply bD|apply bA);refine blk_far ?_ NB387_397.out _;(with_reducible repeat first|apply bN|apply bD|apply bA);refine blk_far ?_ NB387_397.out _;(with_reducible repeat first|apply bN|apply bD|apply bA);refine blk_far ?_ NB387_397.out _;(with_reducible repeat first|apply bN|apply bD|apply bA);exact BK387.out) hb);have n5_:=Zz.mk (bB (g:=gb395) (o:=.cells #[u396000] 36 (0,0)) (by (with_reducible repeat first|apply bN|apply bD|apply bA);refine blk_far ?_ NB395_397.out _;(with_reducible repeat first|apply bN|apply bD|apply bA);refine blk_far ?_ NB395_397.out _;(with_reducible repeat first|apply bN|apply bD|apply bA);refine blk_far ?_ NB395_397.out _;(with_reducible repeat first|apply bN|apply bD|apply bA);exact BK395.out) hb);have n6_:=Zz.mk (bB (g:=gb397) (o:=.cells #[.int .i64 ((rT l0_0 x24_1).f0),.int .i64 ((rT l0_0 x24_1).f1),.bool ((rT l0_0 x24_1).f2)] 62 (0,0)) (by (with_reducible repeat first|apply bN|apply bD|apply bA);refine blk_put (cs:=#[.int .i64 ((rT l0_0 x24_1).f0),.int .i64 ((rT l0_0 x24_1).f1),.bool false]) ?_ 2 _ rfl;(with_reducible repeat first|apply bN|apply bD|apply bA);refine blk_put (cs:=#[.int .i64 ((rT l0_0 x24_1).f0),.int .i64 0,.bool false]) ?_ 1 _ rfl;(with_reducible repeat first|apply bN|apply bD|apply bA);refine blk_put (cs:=#[.int .i64 0,.int .i64 0,.bool false]) ?_ 0 _ rfl;(with_reducible repeat first|apply bN|apply bD|apply bA);exact BK397.out) hb);have n7_:=Zz.mk (qP (by repeat (first|(with_reducible first|exact HB.out|apply qA|apply qN|apply q1_|refine qS ?_ GE386.out|refine qS ?_ GE387.out|refine qS ?_ GE395.out|refine qS ?_ GE397.out)|exact HB.out)) hb);clear HO_3;clear HO_6;clear HO_396000;clear BK386;clear BK387;clear BK395;clear BK397;clear HB;have HO_3:=n0_;have HO_6:=n1_;have HO_396000:=n2_;have BK386:=n3_;have BK387:=n4_;have BK395:=n5_;have BK397:=n6_;have HB:=n7_;clear n0_ n1_ n2_ n3_ n4_ n5_ n6_ n7_;(try clear hb);(try clear hb2);(try clear hk);(try clear hi)))
         go_roundg k1
         case measure=>have:=HK1.out;omega
         case rel=>exact ⟨(x6_1),(wrap64 (x24_1+1)),(x396000_1),(u396000),(by first|rfl|(simp;done)|(simp [*];done)),H',⟨by have:=HK1.out;omega⟩,⟨by (with_reducible repeat first|apply Kd.R_alloc|apply Kd.R_drewN|apply Kd.R_drew);exact HO_3.out⟩,⟨by (with_reducible repeat first|apply Kd.R_alloc|apply Kd.R_drewN|apply Kd.R_drew);exact HO_6.out⟩,⟨by (with_reducible repeat first|apply Kd.R_alloc|apply Kd.R_drewN|apply Kd.R_drew);exact HO_396000.out⟩,⟨by (with_reducible repeat first|apply bN|apply bD|apply bA);exact BK386.out⟩,⟨by (with_reducible repeat first|apply bN|apply bD|apply bA);exact BK387.out⟩,⟨by (with_reducible repeat first|apply bN|apply bD|apply bA);exact BK395.out⟩,⟨by repeat (first|(with_reducible first|exact HB.out|apply qA|apply qN|apply q1_|refine qS ?_ GE386.out|refine qS ?_ GE387.out|refine qS ?_ GE395.out|refine qS ?_ GE397.out)|exact HB.out)⟩⟩
       ·rw [if_neg c20] at H
        exact absurd H (by simp)
      ·rw [if_neg c19] at H
       exact absurd H (by simp)
     ·rw [if_neg c18] at H
      have c18b0:decide (x24_1<(l0_0.length:Int))=false:=decide_eq_false c18
      clear c18
      obtain rfl:=Option.some.inj H
      have hnb127:=NB395_386.out
      have hnc127:=NB386_395.out
      have hnb128:=NB395_387.out
      have hnc128:=NB387_395.out
      have hcz129_0:wr.cell? ⟨gb395,0,none⟩=some (u396000):=(bC BK395.out 0).trans rfl
      have hfz129_0:=bF BK395.out 0
      obtain ⟨Ao130,co130,eo130⟩:=Kd.R_slice HO_396000.out
      subst eo130
      have hnb131:=NB387_386.out
      have hnc131:=NB386_387.out
      have hcz132_0:wr.cell? ⟨gb387,0,none⟩=some (.slice none 0 0):=(bC BK387.out 0).trans rfl
      have hfz132_0:=bF BK387.out 0
      go_wp2
      refine bodyPost_ret (results_cell_row rfl _ _ gb387 36 #[.slice Ao130 x396000_1.length co130] (0,0) _ rfl (by (with_reducible repeat first|apply bN|apply bD|apply bA);refine blk_put (cs:=#[.slice none 0 0]) ?_ 0 _ rfl;(with_reducible repeat first|apply bN|apply bD|apply bA);exact BK387.out) Try.underlying36 rfl (by kernel_rfl)) rfl ?_
      exact ⟨_,by first|rfl|(simp [errW_none,errW_some] <;> rfl)|(simp [*,errW_none,errW_some] <;> rfl),by (with_reducible repeat first|apply Kd.R_alloc|apply Kd.R_drewN|apply Kd.R_drew);exact Kd.R_mono (R_same_ (Kd.R_far (p:=⟨gb387,0,none⟩) (Kd.R_types HO_396000.out BK387.out (by decide)) (fun _ hk=>hk.2) (.slice Ao130 x396000_1.length co130)) rfl) (fun _ hk=>trivial),by repeat (first|(with_reducible first|exact HB.out|apply qA|apply qN|apply q1_|refine qS ?_ GE386.out|refine qS ?_ GE387.out|refine qS ?_ GE395.out)|exact HB.out)⟩
  ·rw [if_neg c4] at H
   exact absurd H (by simp)
 ·rw [if_neg c3] at H
  exact absurd H (by simp)
end Go.Proofs.Ytghkbgmbbcaecaa.Q
