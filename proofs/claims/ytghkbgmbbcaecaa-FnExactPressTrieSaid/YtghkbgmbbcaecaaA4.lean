import Derived.Test.YtghkbgmbbcaecaaA0
import Derived.Test.YtghkbgmbbcaecaaA1
import Derived.Test.YtghkbgmbbcaecaaA2
import Derived.Test.YtghkbgmbbcaecaaA3
import Derived.Test.YtghkbgmbbcaecaaAwWords
import Derived.Test.YtghkbgmbbcaecaaAwLast
import Derived.Test.YtghkbgmbbcaecaaAwTab
import Derived.Test.YtghkbgmbbcaecaaAwApart
import Derived.Test.YtghkbgmbbcaecaaAwFoot
import Derived.Test.YtghkbgmbbcaecaaAwKept
import Derived.Test.YtghkbgmbbcaecaaAwShare
import Derived.Test.YtghkbgmbbcaecaaAwN
import Derived.Test.YtghkbgmbbcaecaaAwEqStruct
import Derived.Test.YtghkbgmbbcaecaaAwRepsOne
import Derived.Test.YtghkbgmbbcaecaaAwGuard
import Derived.Test.YtghkbgmbbcaecaaAwMore
import Derived.Test.YtghkbgmbbcaecaaProg
import Derived.Below
import Derived.Deep.Draws
import Derived.Deep.AppendLies
import Derived.Maps.AppendAt
import Derived.OwnWalk
import Derived.Laws.BytesArg
import Derived.Laws.MakeOwn
import Derived.Laws.OwnMore
import Derived.Deep.OwnRows
import Derived.Tactics
import Derived.Lib.ConvBytes
import Derived.Laws.Slices
import Derived.WalkKit
import Derived.KernelRfl
import Derived.RowKit3
import Derived.Deep.LoopGhost
import Derived.Deep.QuietTactic
import Derived.BigQuiet
import Derived.WideLaws
import Derived.Deep.DeepCutAuto
import Derived.Deep.CutBlock
import Derived.Deep.RegionHeld3
import Derived.Laws.Rows
import Derived.Lib.AppendStr
import Derived.ArgAppend
import Derived.Laws.IdiomCopy
import Derived.OrdersHeld
import Derived.Laws.BitsLemmas
import Derived.RowKit
import Derived.Lib.SlicesCompact
import Derived.Maps.Own
import Derived.StringKeys
import Derived.Maps.OwnOps
import Derived.Maps.OwnSet
import Derived.Maps.Views
import Derived.Laws.AppendOwn
import Derived.Deep.DrawnRows
import Derived.Shelf.Sort.Plain
import Derived.Shelf.Slices.CompactS
import Derived.Shelf.Slices.In.SortNone
import Derived.RangeFuncBox
import Derived.RangeFuncLeaves
import Derived.Shelf.Abstract
import Derived.OwnWalkIn
import Derived.TacticsInMore
import Derived.LoopNIn
import Derived.LoopIn
import Derived.Lib.OwnBridge
import Derived.Sort.OwnSorted
import Derived.Sort.Grow
import Derived.Shelf.Strings.OnBuilder
import Derived.Ground.NamesProg
import Derived.Ground.SlgfProg
import Derived.Sort.Walk0
import Derived.Lib.Strings
set_option linter.unusedVariables false
set_option linter.unusedSimpArgs false
namespace Go.Proofs.Ytghkbgmbbcaecaa.Q
open Go.RowKit Go.Proofs.YtghkbgmbbcaecaaW.PrintWords Go.Proofs.YtghkbgmbbcaecaaW.PrintLast Go.Proofs.YtghkbgmbbcaecaaW.PrintMore
attribute [local go_sem] run_field_23 run_field_24 run_field_31 run_field_32 run_field_35 run_field_36 isSome_setCell max2_int min2_int max_two min_two max_three min_three max_four min_four   -- for this text's walks alone
set_option linter.unusedVariables false
set_option linter.unusedSimpArgs false
def impl_PressTrie.f (k:Nat) (l0_0:List (S62)):Option ((List (S69)) × Bool):=(impl_isTrie.f k l0_0).bind fun t415=>(if t415=true then ((impl_Trie_press.f k l0_0).bind fun t416=>(some (t416,true))) else (some (([]:List (S69)),false)))
set_option maxHeartbeats 8000000 in
set_option maxRecDepth 100000 in
theorem impl_PressTrie.calls (k:Nat) (A0_0:Option Addr) (c0_0:Nat) (l0_0:List (S62)) (r1:List (S69)) (r2:Bool) (w:World) (hr0_0:Kd.C k62 w A0_0 l0_0.length l0_0) (hc0_0:l0_0.length≤c0_0) (h:impl_PressTrie.f k l0_0=some (r1,r2)) :
  Calls Try.prog 13 #[.agg #[.slice A0_0 l0_0.length c0_0]] w fun e w'=>∃ v0_:Value,e=.returned (.tuple #[.agg #[v0_],.bool r2])∧Kd.R k69 69 w' w.heap.size (fun _=>True) v0_ r1∧Below w.heap.size w w':=by
 have hu24:=Try.underlying24
 have hu36:=Try.underlying36
 have HR0_0:=Zz.mk hr0_0
 have HC0_0:=Zz.mk hc0_0
 clear hr0_0 hc0_0
 have HB:=Zz.mk (Below.refl w.heap.size w)
 have H:((impl_isTrie.f k l0_0).bind fun t415=>(if t415=true then ((impl_Trie_press.f k l0_0).bind fun t416=>(some (t416,true))) else (some (([]:List (S69)),false))))=some (r1,r2):=h
 clear h
 replace H:=Option.bind_eq_some_iff.mp H
 obtain ⟨t415,A20,H⟩:=H
 replace H:(if t415=true then ((impl_Trie_press.f k l0_0).bind fun t416=>(some (t416,true))) else (some (([]:List (S69)),false)))=some (r1,r2):=H
 have A2:=Zz.mk A20
 clear A20
 by_cases c3:t415=true
 ·subst c3
  have H1:((impl_Trie_press.f k l0_0).bind fun t416=>(some (t416,true)))=some (r1,r2):=by rw [if_pos rfl] at H;exact H
  clear H
  have H:=H1
  clear H1
  replace H:=Option.bind_eq_some_iff.mp H
  obtain ⟨t416,A40,H⟩:=H
  replace H:(some (t416,true))=some (r1,r2):=H
  have A4:=Zz.mk A40
  clear A40
  simp only [Option.some.injEq,Prod.mk.injEq] at H
  obtain ⟨rfl,rfl⟩:=H
  go_enter Try.func13,Try.ntmps13
  go_wp2_with (first|((with_reducible refine gate_dst (N:=1) rfl ?_);refine box_event ?hg (N:=1) ?hd (cs:=#[.slice A0_0 l0_0.length c0_0]) (t:=24) ?hr ?_;(case hd=>rfl);(case hg=>rfl);(case hr=>first|(go_simp;done)|(go_simp;rfl));intro gb413 hg w5 hbox hb;have n0_:=Zz.mk (qP (by repeat (first|(with_reducible first|exact HB.out|apply qA|apply qN|apply q1_)|exact HB.out)) hb);have n1_:=Zz.mk (hbox);have n2_:=Zz.mk ((by rw [hg];exact (qZ (by repeat (first|(with_reducible first|exact HB.out|apply qA|apply qN|apply q1_)|exact HB.out))):w.heap.size≤gb413));have n3_:=Zz.mk ((by rw [hg];exact (qZ (by repeat (first|(with_reducible first|exact HB.out|apply qA|apply qN|apply q1_)|exact HB.out))):w.heap.size≤gb413));clear HB;have HB:=n0_;have BK413:=n1_;have GW413:=n2_;have GE413:=n3_;clear n0_ n1_ n2_ n3_;clear hb hbox hg)|((with_reducible refine gate_dst (N:=2) rfl ?_);refine box_event ?hg (N:=2) ?hd (cs:=#[.slice none 0 0]) (t:=36) ?hr ?_;(case hd=>rfl);(case hg=>rfl);(case hr=>first|(go_simp;done)|(go_simp;rfl));intro gb414 hg w6 hbox hb;have n0_:=Zz.mk (bB (g:=gb413) (o:=.cells #[.slice A0_0 l0_0.length c0_0] 24 (0,0)) (by (with_reducible repeat first|apply bN|apply bD|apply bA);exact BK413.out) hb);have n1_:=Zz.mk (qP (by repeat (first|(with_reducible first|exact HB.out|apply qA|apply qN|apply q1_|refine qS ?_ GE413.out)|exact HB.out)) hb);have n2_:=Zz.mk (hbox);have n3_:=Zz.mk ((by rw [hg];exact (qZ (by repeat (first|(with_reducible first|exact HB.out|apply qA|apply qN|apply q1_|refine qS ?_ GE413.out)|exact HB.out))):w.heap.size≤gb414));have n4_:=Zz.mk ((by rw [hg];exact (qZ (by repeat (first|(with_reducible first|exact HB.out|apply qA|apply qN|apply q1_|refine qS ?_ GE413.out)|exact HB.out))):w.heap.size≤gb414));have n5_:=Zz.mk ((by rw [hg];exact Nat.ne_of_lt (blk_lt (g:=gb413) (o:=.cells #[.slice A0_0 l0_0.length c0_0] 24 (0,0)) (by (with_reducible repeat first|apply bN|apply bD|apply bA);exact BK413.out)):gb413 ≠ gb414));have n6_:=Zz.mk ((by rw [hg];exact Nat.ne_of_gt (blk_lt (g:=gb413) (o:=.cells #[.slice A0_0 l0_0.length c0_0] 24 (0,0)) (by (with_reducible repeat first|apply bN|apply bD|apply bA);exact BK413.out)):gb414 ≠ gb413));clear BK413;clear HB;have BK413:=n0_;have HB:=n1_;have BK414:=n2_;have GW414:=n3_;have GE414:=n4_;have NB413_414:=n5_;have NB414_413:=n6_;clear n0_ n1_ n2_ n3_ n4_ n5_ n6_;clear hb hbox hg;have hnb7:=NB413_414.out;have hnc7:=NB414_413.out;have hcz8_0:w6.cell? ⟨gb413,0,none⟩=some (.slice A0_0 l0_0.length c0_0):=(bC BK413.out 0).trans rfl;have hfz8_0:=bF BK413.out 0)|((with_reducible refine gate_callee (f:=27) rfl ?_);refine goesL_ (some 5) rfl rfl Try.func27 (by kernel_rfl) rfl #[.agg #[.slice A0_0 l0_0.length c0_0]] rfl (by (try simp only [List.map_toArray,List.map_cons,List.map_nil]);first|done|rfl|(simp only [List.length_drop,List.length_take];rfl)) ?_;(with_reducible refine (impl_isTrie.calls k _ _ l0_0 true _ ?side1 ?side2 A2.out).mono ?_);(case side1=>repeat (first|exact (Kd.C_below HR0_0.out HB.out)|(with_reducible refine Kd.C_alloc ?_ _)|(with_reducible refine Kd.C_drewN ?_ _)|(with_reducible refine Kd.C_drew ?_)));(case side2=>exact HC0_0.out);rintro e w9 ⟨rfl,hb⟩;refine ⟨_,rfl,?_⟩;have n0_:=Zz.mk (bB (g:=gb413) (o:=.cells #[.slice A0_0 l0_0.length c0_0] 24 (0,0)) (by (with_reducible repeat first|apply bN|apply bD|apply bA);exact BK413.out) hb);have n1_:=Zz.mk (bB (g:=gb414) (o:=.cells #[.slice none 0 0] 36 (0,0)) (by (with_reducible repeat first|apply bN|apply bD|apply bA);exact BK414.out) hb);have n2_:=Zz.mk (qP (by repeat (first|(with_reducible first|exact HB.out|apply qA|apply qN|apply q1_|refine qS ?_ GE413.out|refine qS ?_ GE414.out)|exact HB.out)) hb);clear BK413;clear BK414;clear HB;have BK413:=n0_;have BK414:=n1_;have HB:=n2_;clear n0_ n1_ n2_;(try clear hb);(try clear hb2);(try clear hk);(try clear hi);have hcz10_0:w9.cell? ⟨gb413,0,none⟩=some (.slice A0_0 l0_0.length c0_0):=(bC BK413.out 0).trans rfl;have hfz10_0:=bF BK413.out 0)|((with_reducible refine gate_callee (f:=28) rfl ?_);refine goesL_ (some 9) rfl rfl Try.func28 (by kernel_rfl) rfl #[.agg #[.slice A0_0 l0_0.length c0_0]] rfl (by (try simp only [List.map_toArray,List.map_cons,List.map_nil]);first|done|rfl|(simp only [List.length_drop,List.length_take];rfl)) ?_;(with_reducible refine (impl_Trie_press.calls k _ _ l0_0 t416 _ ?side1 ?side2 A4.out).mono ?_);(case side1=>repeat (first|exact (Kd.C_below HR0_0.out HB.out)|(with_reducible refine Kd.C_alloc ?_ _)|(with_reducible refine Kd.C_drewN ?_ _)|(with_reducible refine Kd.C_drew ?_)));(case side2=>exact HC0_0.out);rintro e w11 ⟨v417,rfl,ho0,hb⟩;refine ⟨_,rfl,?_⟩;have n0_:=Zz.mk (Kd.R_lower ho0 (qZ (by repeat (first|(with_reducible first|exact HB.out|apply qA|apply qN|apply q1_|refine qS ?_ GE413.out|refine qS ?_ GE414.out)|exact HB.out))));have n1_:=Zz.mk (bB (g:=gb413) (o:=.cells #[.slice A0_0 l0_0.length c0_0] 24 (0,0)) (by (with_reducible repeat first|apply bN|apply bD|apply bA);exact BK413.out) hb);have n2_:=Zz.mk (bB (g:=gb414) (o:=.cells #[.slice none 0 0] 36 (0,0)) (by (with_reducible repeat first|apply bN|apply bD|apply bA);exact BK414.out) hb);have n3_:=Zz.mk (qP (by repeat (first|(with_reducible first|exact HB.out|apply qA|apply qN|apply q1_|refine qS ?_ GE413.out|refine qS ?_ GE414.out)|exact HB.out)) hb);clear BK413;clear BK414;clear HB;have HO418:=n0_;have BK413:=n1_;have BK414:=n2_;have HB:=n3_;clear n0_ n1_ n2_ n3_;(try clear hb);(try clear hb2);(try clear hk);(try clear hi);(try clear ho0);obtain ⟨Ao12,co12,eo12⟩:=Kd.R_slice HO418.out;subst eo12;have hcz13_0:w11.cell? ⟨gb414,0,none⟩=some (.slice none 0 0):=(bC BK414.out 0).trans rfl;have hfz13_0:=bF BK414.out 0))
  refine bodyPost_ret (results_ct rfl _ _ gb414 36 #[.slice Ao12 t416.length co12] (0,0) _ rfl (by (with_reducible repeat first|apply bN|apply bD|apply bA);refine blk_put (cs:=#[.slice none 0 0]) ?_ 0 _ rfl;(with_reducible repeat first|apply bN|apply bD|apply bA);exact BK414.out) Try.underlying36 rfl (by kernel_rfl)) rfl ?_
  exact ⟨_,by first|rfl|(simp [errW_none,errW_some] <;> rfl)|(simp [*,errW_none,errW_some] <;> rfl),by (with_reducible repeat first|apply Kd.R_alloc|apply Kd.R_drewN|apply Kd.R_drew);exact Kd.R_mono (R_same_ (Kd.R_far (p:=⟨gb414,0,none⟩) (Kd.R_types HO418.out BK414.out (by decide)) (fun _ hk=>hk.2) (.slice Ao12 t416.length co12)) rfl) (fun _ hk=>trivial),by repeat (first|(with_reducible first|exact HB.out|apply qA|apply qN|apply q1_|refine qS ?_ GE413.out|refine qS ?_ GE414.out)|exact HB.out)⟩
 ·replace c3:=Bool.eq_false_iff.mpr c3
  subst c3
  have H1:(some (([]:List (S69)),false))=some (r1,r2):=by rw [if_neg (show ¬ (false=true) by decide)] at H;exact H
  clear H
  have H:=H1
  clear H1
  simp only [Option.some.injEq,Prod.mk.injEq] at H
  obtain ⟨rfl,rfl⟩:=H
  go_enter Try.func13,Try.ntmps13
  go_wp2_with (first|((with_reducible refine gate_dst (N:=1) rfl ?_);refine box_event ?hg (N:=1) ?hd (cs:=#[.slice A0_0 l0_0.length c0_0]) (t:=24) ?hr ?_;(case hd=>rfl);(case hg=>rfl);(case hr=>first|(go_simp;done)|(go_simp;rfl));intro gb413 hg w14 hbox hb;have n0_:=Zz.mk (qP (by repeat (first|(with_reducible first|exact HB.out|apply qA|apply qN|apply q1_)|exact HB.out)) hb);have n1_:=Zz.mk (hbox);have n2_:=Zz.mk ((by rw [hg];exact (qZ (by repeat (first|(with_reducible first|exact HB.out|apply qA|apply qN|apply q1_)|exact HB.out))):w.heap.size≤gb413));have n3_:=Zz.mk ((by rw [hg];exact (qZ (by repeat (first|(with_reducible first|exact HB.out|apply qA|apply qN|apply q1_)|exact HB.out))):w.heap.size≤gb413));clear HB;have HB:=n0_;have BK413:=n1_;have GW413:=n2_;have GE413:=n3_;clear n0_ n1_ n2_ n3_;clear hb hbox hg)|((with_reducible refine gate_dst (N:=2) rfl ?_);refine box_event ?hg (N:=2) ?hd (cs:=#[.slice none 0 0]) (t:=36) ?hr ?_;(case hd=>rfl);(case hg=>rfl);(case hr=>first|(go_simp;done)|(go_simp;rfl));intro gb414 hg w15 hbox hb;have n0_:=Zz.mk (bB (g:=gb413) (o:=.cells #[.slice A0_0 l0_0.length c0_0] 24 (0,0)) (by (with_reducible repeat first|apply bN|apply bD|apply bA);exact BK413.out) hb);have n1_:=Zz.mk (qP (by repeat (first|(with_reducible first|exact HB.out|apply qA|apply qN|apply q1_|refine qS ?_ GE413.out)|exact HB.out)) hb);have n2_:=Zz.mk (hbox);have n3_:=Zz.mk ((by rw [hg];exact (qZ (by repeat (first|(with_reducible first|exact HB.out|apply qA|apply qN|apply q1_|refine qS ?_ GE413.out)|exact HB.out))):w.heap.size≤gb414));have n4_:=Zz.mk ((by rw [hg];exact (qZ (by repeat (first|(with_reducible first|exact HB.out|apply qA|apply qN|apply q1_|refine qS ?_ GE413.out)|exact HB.out))):w.heap.size≤gb414));have n5_:=Zz.mk ((by rw [hg];exact Nat.ne_of_lt (blk_lt (g:=gb413) (o:=.cells #[.slice A0_0 l0_0.length c0_0] 24 (0,0)) (by (with_reducible repeat first|apply bN|apply bD|apply bA);exact BK413.out)):gb413 ≠ gb414));have n6_:=Zz.mk ((by rw [hg];exact Nat.ne_of_gt (blk_lt (g:=gb413) (o:=.cells #[.slice A0_0 l0_0.length c0_0] 24 (0,0)) (by (with_reducible repeat first|apply bN|apply bD|apply bA);exact BK413.out)):gb414 ≠ gb413));clear BK413;clear HB;have BK413:=n0_;have HB:=n1_;have BK414:=n2_;have GW414:=n3_;have GE414:=n4_;have NB413_414:=n5_;have NB414_413:=n6_;clear n0_ n1_ n2_ n3_ n4_ n5_ n6_;clear hb hbox hg;have hnb16:=NB413_414.out;have hnc16:=NB414_413.out;have hcz17_0:w15.cell? ⟨gb413,0,none⟩=some (.slice A0_0 l0_0.length c0_0):=(bC BK413.out 0).trans rfl;have hfz17_0:=bF BK413.out 0)|((with_reducible refine gate_callee (f:=27) rfl ?_);refine goesL_ (some 5) rfl rfl Try.func27 (by kernel_rfl) rfl #[.agg #[.slice A0_0 l0_0.length c0_0]] rfl (by (try simp only [List.map_toArray,List.map_cons,List.map_nil]);first|done|rfl|(simp only [List.length_drop,List.length_take];rfl)) ?_;(with_reducible refine (impl_isTrie.calls k _ _ l0_0 false _ ?side1 ?side2 A2.out).mono ?_);(case side1=>repeat (first|exact (Kd.C_below HR0_0.out HB.out)|(with_reducible refine Kd.C_alloc ?_ _)|(with_reducible refine Kd.C_drewN ?_ _)|(with_reducible refine Kd.C_drew ?_)));(case side2=>exact HC0_0.out);rintro e w18 ⟨rfl,hb⟩;refine ⟨_,rfl,?_⟩;have n0_:=Zz.mk (bB (g:=gb413) (o:=.cells #[.slice A0_0 l0_0.length c0_0] 24 (0,0)) (by (with_reducible repeat first|apply bN|apply bD|apply bA);exact BK413.out) hb);have n1_:=Zz.mk (bB (g:=gb414) (o:=.cells #[.slice none 0 0] 36 (0,0)) (by (with_reducible repeat first|apply bN|apply bD|apply bA);exact BK414.out) hb);have n2_:=Zz.mk (qP (by repeat (first|(with_reducible first|exact HB.out|apply qA|apply qN|apply q1_|refine qS ?_ GE413.out|refine qS ?_ GE414.out)|exact HB.out)) hb);clear BK413;clear BK414;clear HB;have BK413:=n0_;have BK414:=n1_;have HB:=n2_;clear n0_ n1_ n2_;(try clear hb);(try clear hb2);(try clear hk);(try clear hi);have hcz19_0:w18.cell? ⟨gb414,0,none⟩=some (.slice none 0 0):=(bC BK414.out 0).trans rfl;have hfz19_0:=bF BK414.out 0))
  refine bodyPost_ret (results_ct rfl _ _ gb414 36 #[.slice none 0 0] (0,0) _ rfl (by (with_reducible repeat first|apply bN|apply bD|apply bA);refine blk_put (cs:=#[.slice none 0 0]) ?_ 0 _ rfl;(with_reducible repeat first|apply bN|apply bD|apply bA);exact BK414.out) Try.underlying36 rfl (by kernel_rfl)) rfl ?_
  exact ⟨_,by first|rfl|(simp [errW_none,errW_some] <;> rfl)|(simp [*,errW_none,errW_some] <;> rfl),by first|exact Kd.R_nil _ _ _ _ _|exact Kd.N_nil _ _ _ _ _|exact Kd.V_nil _ _ _ _ _|exact Kd.Q_nil _ _ _ _ _|exact Kd.S_nil _ _ _ _ _,by repeat (first|(with_reducible first|exact HB.out|apply qA|apply qN|apply q1_|refine qS ?_ GE413.out|refine qS ?_ GE414.out)|exact HB.out)⟩
def laws_eqBranch.f (a0_0:ByteArray) (a0_1:Int) (a0_2:Bool) (a1_0:ByteArray) (a1_1:Int) (a1_2:Bool):Option (Bool):=if a0_0.toList=a1_0.toList then (if a0_1=a1_1 then (if (a0_2 != a1_2)=true then (some false) else (some true)) else (some false)) else (some false)
set_option maxHeartbeats 8000000 in
set_option maxRecDepth 100000 in
theorem laws_eqBranch.calls (a0_0:ByteArray) (a0_1:Int) (a0_2:Bool) (a1_0:ByteArray) (a1_1:Int) (a1_2:Bool) (r:Bool) (w:World) (h:laws_eqBranch.f a0_0 a0_1 a0_2 a1_0 a1_1 a1_2=some r) :
  Calls Try.prog 54 #[.agg #[.string a0_0,.int .i64 a0_1,.bool a0_2],.agg #[.string a1_0,.int .i64 a1_1,.bool a1_2]] w fun e w'=>e=.returned (.bool r)∧Below w.heap.size w w':=by
 have hu69:=Try.underlying69
 have HB:=Zz.mk (Below.refl w.heap.size w)
 have H:(if a0_0.toList=a1_0.toList then (if a0_1=a1_1 then (if (a0_2 != a1_2)=true then (some false) else (some true)) else (some false)) else (some false))=some r:=h
 clear h
 by_cases c3:a0_0.toList=a1_0.toList
 ·rw [if_pos c3] at H
  have c3b0:(a0_0.toList == a1_0.toList)=true:=beq_iff_eq.mpr c3
  have c3b1:(a0_0.toList != a1_0.toList)=false:=bne_eq_false_iff_eq.mpr c3
  clear c3
  by_cases c4:a0_1=a1_1
  ·rw [if_pos c4] at H
   have c4b0:(a0_1 == a1_1)=true:=beq_iff_eq.mpr c4
   have c4b1:(a0_1 != a1_1)=false:=bne_eq_false_iff_eq.mpr c4
   clear c4
   by_cases c5:(a0_2 != a1_2)=true
   ·rw [if_pos c5] at H
    have c5b0:(a0_2 != a1_2)=true:=c5
    (try (have c5b1:decide (a0_2=a1_2)=false:=by simpa using c5))
    (try (have c5b2:(a0_2 == a1_2)=false:=by simpa using c5))
    (try (have c5b3:¬ (a0_2=a1_2):=by simpa using c5))
    clear c5
    obtain rfl:=Option.some.inj H
    go_enter Try.func54,Try.ntmps54
    go_wp2_with (first|((with_reducible refine gate_dst (N:=2) rfl ?_);refine box_event ?hg (N:=2) ?hd (cs:=#[.string a0_0,.int .i64 a0_1,.bool a0_2]) (t:=69) ?hr ?_;(case hd=>rfl);(case hg=>rfl);(case hr=>first|(go_simp;done)|(go_simp;rfl));intro gb419 hg w6 hbox hb;have n0_:=Zz.mk (qP (by repeat (first|(with_reducible first|exact HB.out|apply qA|apply qN|apply q1_)|exact HB.out)) hb);have n1_:=Zz.mk (hbox);have n2_:=Zz.mk ((by rw [hg];exact (qZ (by repeat (first|(with_reducible first|exact HB.out|apply qA|apply qN|apply q1_)|exact HB.out))):w.heap.size≤gb419));have n3_:=Zz.mk ((by rw [hg];exact (qZ (by repeat (first|(with_reducible first|exact HB.out|apply qA|apply qN|apply q1_)|exact HB.out))):w.heap.size≤gb419));clear HB;have HB:=n0_;have BK419:=n1_;have GW419:=n2_;have GE419:=n3_;clear n0_ n1_ n2_ n3_;clear hb hbox hg)|((with_reducible refine gate_dst (N:=3) rfl ?_);refine box_event ?hg (N:=3) ?hd (cs:=#[.string a1_0,.int .i64 a1_1,.bool a1_2]) (t:=69) ?hr ?_;(case hd=>rfl);(case hg=>rfl);(case hr=>first|(go_simp;done)|(go_simp;rfl));intro gb420 hg w7 hbox hb;have n0_:=Zz.mk (bB (g:=gb419) (o:=.cells #[.string a0_0,.int .i64 a0_1,.bool a0_2] 69 (0,0)) (by (with_reducible repeat first|apply bN|apply bD|apply bA);exact BK419.out) hb);have n1_:=Zz.mk (qP (by repeat (first|(with_reducible first|exact HB.out|apply qA|apply qN|apply q1_|refine qS ?_ GE419.out)|exact HB.out)) hb);have n2_:=Zz.mk (hbox);have n3_:=Zz.mk ((by rw [hg];exact (qZ (by repeat (first|(with_reducible first|exact HB.out|apply qA|apply qN|apply q1_|refine qS ?_ GE419.out)|exact HB.out))):w.heap.size≤gb420));have n4_:=Zz.mk ((by rw [hg];exact (qZ (by repeat (first|(with_reducible first|exact HB.out|apply qA|apply qN|apply q1_|refine qS ?_ GE419.out)|exact HB.out))):w.heap.size≤gb420));have n5_:=Zz.mk ((by rw [hg];exact Nat.ne_of_lt (blk_lt (g:=gb419) (o:=.cells #[.string a0_0,.int .i64 a0_1,.bool a0_2] 69 (0,0)) (by (with_reducible repeat first|apply bN|apply bD|apply bA);exact BK419.out)):gb419 ≠ gb420));have n6_:=Zz.mk ((by rw [hg];exact Nat.ne_of_gt (blk_lt (g:=gb419) (o:=.cells #[.string a0_0,.int .i64 a0_1,.bool a0_2] 69 (0,0)) (by (with_reducible repeat first|apply bN|apply bD|apply bA);exact BK419.out)):gb420 ≠ gb419));clear BK419;clear HB;have BK419:=n0_;have HB:=n1_;have BK420:=n2_;have GW420:=n3_;have GE420:=n4_;have NB419_420:=n5_;have NB420_419:=n6_;clear n0_ n1_ n2_ n3_ n4_ n5_ n6_;clear hb hbox hg;have hnb8:=NB419_420.out;have hnc8:=NB420_419.out;have hcz9_0:w7.cell? ⟨gb419,0,none⟩=some (.string a0_0):=(bC BK419.out 0).trans rfl;have hcz9_1:w7.cell? ⟨gb419,1,none⟩=some (.int .i64 a0_1):=(bC BK419.out 1).trans rfl;have hcz9_2:w7.cell? ⟨gb419,2,none⟩=some (.bool a0_2):=(bC BK419.out 2).trans rfl;have hfz9_0:=bF BK419.out 0;have hfz9_1:=bF BK419.out 1;have hfz9_2:=bF BK419.out 2;have hcz10_0:w7.cell? ⟨gb420,0,none⟩=some (.string a1_0):=(bC BK420.out 0).trans rfl;have hcz10_1:w7.cell? ⟨gb420,1,none⟩=some (.int .i64 a1_1):=(bC BK420.out 1).trans rfl;have hcz10_2:w7.cell? ⟨gb420,2,none⟩=some (.bool a1_2):=(bC BK420.out 2).trans rfl;have hfz10_0:=bF BK420.out 0;have hfz10_1:=bF BK420.out 1;have hfz10_2:=bF BK420.out 2))
    go_ret
    exact ⟨by first|rfl|(simp [errW_none,errW_some] <;> rfl)|(simp [*,errW_none,errW_some] <;> rfl),by repeat (first|(with_reducible first|exact HB.out|apply qA|apply qN|apply q1_|refine qS ?_ GE419.out|refine qS ?_ GE420.out)|exact HB.out)⟩
   ·rw [if_neg c5] at H
    have c5b0:(a0_2 != a1_2)=false:=by simpa using c5
    (try (have c5b1:decide (a0_2=a1_2)=true:=by simpa using c5))
    (try (have c5b2:(a0_2 == a1_2)=true:=by simpa using c5))
    clear c5
    obtain rfl:=Option.some.inj H
    go_enter Try.func54,Try.ntmps54
    go_wp2_with (first|((with_reducible refine gate_dst (N:=2) rfl ?_);refine box_event ?hg (N:=2) ?hd (cs:=#[.string a0_0,.int .i64 a0_1,.bool a0_2]) (t:=69) ?hr ?_;(case hd=>rfl);(case hg=>rfl);(case hr=>first|(go_simp;done)|(go_simp;rfl));intro gb419 hg w11 hbox hb;have n0_:=Zz.mk (qP (by repeat (first|(with_reducible first|exact HB.out|apply qA|apply qN|apply q1_)|exact HB.out)) hb);have n1_:=Zz.mk (hbox);have n2_:=Zz.mk ((by rw [hg];exact (qZ (by repeat (first|(with_reducible first|exact HB.out|apply qA|apply qN|apply q1_)|exact HB.out))):w.heap.size≤gb419));have n3_:=Zz.mk ((by rw [hg];exact (qZ (by repeat (first|(with_reducible first|exact HB.out|apply qA|apply qN|apply q1_)|exact HB.out))):w.heap.size≤gb419));clear HB;have HB:=n0_;have BK419:=n1_;have GW419:=n2_;have GE419:=n3_;clear n0_ n1_ n2_ n3_;clear hb hbox hg)|((with_reducible refine gate_dst (N:=3) rfl ?_);refine box_event ?hg (N:=3) ?hd (cs:=#[.string a1_0,.int .i64 a1_1,.bool a1_2]) (t:=69) ?hr ?_;(case hd=>rfl);(case hg=>rfl);(case hr=>first|(go_simp;done)|(go_simp;rfl));intro gb420 hg w12 hbox hb;have n0_:=Zz.mk (bB (g:=gb419) (o:=.cells #[.string a0_0,.int .i64 a0_1,.bool a0_2] 69 (0,0)) (by (with_reducible repeat first|apply bN|apply bD|apply bA);exact BK419.out) hb);have n1_:=Zz.mk (qP (by repeat (first|(with_reducible first|exact HB.out|apply qA|apply qN|apply q1_|refine qS ?_ GE419.out)|exact HB.out)) hb);have n2_:=Zz.mk (hbox);have n3_:=Zz.mk ((by rw [hg];exact (qZ (by repeat (first|(with_reducible first|exact HB.out|apply qA|apply qN|apply q1_|refine qS ?_ GE419.out)|exact HB.out))):w.heap.size≤gb420));have n4_:=Zz.mk ((by rw [hg];exact (qZ (by repeat (first|(with_reducible first|exact HB.out|apply qA|apply qN|apply q1_|refine qS ?_ GE419.out)|exact HB.out))):w.heap.size≤gb420));have n5_:=Zz.mk ((by rw [hg];exact Nat.ne_of_lt (blk_lt (g:=gb419) (o:=.cells #[.string a0_0,.int .i64 a0_1,.bool a0_2] 69 (0,0)) (by (with_reducible repeat first|apply bN|apply bD|apply bA);exact BK419.out)):gb419 ≠ gb420));have n6_:=Zz.mk ((by rw [hg];exact Nat.ne_of_gt (blk_lt (g:=gb419) (o:=.cells #[.string a0_0,.int .i64 a0_1,.bool a0_2] 69 (0,0)) (by (with_reducible repeat first|apply bN|apply bD|apply bA);exact BK419.out)):gb420 ≠ gb419));clear BK419;clear HB;have BK419:=n0_;have HB:=n1_;have BK420:=n2_;have GW420:=n3_;have GE420:=n4_;have NB419_420:=n5_;have NB420_419:=n6_;clear n0_ n1_ n2_ n3_ n4_ n5_ n6_;clear hb hbox hg;have hnb13:=NB419_420.out;have hnc13:=NB420_419.out;have hcz14_0:w12.cell? ⟨gb419,0,none⟩=some (.string a0_0):=(bC BK419.out 0).trans rfl;have hcz14_1:w12.cell? ⟨gb419,1,none⟩=some (.int .i64 a0_1):=(bC BK419.out 1).trans rfl;have hcz14_2:w12.cell? ⟨gb419,2,none⟩=some (.bool a0_2):=(bC BK419.out 2).trans rfl;have hfz14_0:=bF BK419.out 0;have hfz14_1:=bF BK419.out 1;have hfz14_2:=bF BK419.out 2;have hcz15_0:w12.cell? ⟨gb420,0,none⟩=some (.string a1_0):=(bC BK420.out 0).trans rfl;have hcz15_1:w12.cell? ⟨gb420,1,none⟩=some (.int .i64 a1_1):=(bC BK420.out 1).trans rfl;have hcz15_2:w12.cell? ⟨gb420,2,none⟩=some (.bool a1_2):=(bC BK420.out 2).trans rfl;have hfz15_0:=bF BK420.out 0;have hfz15_1:=bF BK420.out 1;have hfz15_2:=bF BK420.out 2))
    go_ret
    exact ⟨by first|rfl|(simp [errW_none,errW_some] <;> rfl)|(simp [*,errW_none,errW_some] <;> rfl),by repeat (first|(with_reducible first|exact HB.out|apply qA|apply qN|apply q1_|refine qS ?_ GE419.out|refine qS ?_ GE420.out)|exact HB.out)⟩
  ·rw [if_neg c4] at H
   have c4b0:(a0_1 == a1_1)=false:=beq_eq_false_iff_ne.mpr c4
   have c4b1:(a0_1 != a1_1)=true:=bne_iff_ne.mpr c4
   obtain rfl:=Option.some.inj H
   go_enter Try.func54,Try.ntmps54
   go_wp2_with (first|((with_reducible refine gate_dst (N:=2) rfl ?_);refine box_event ?hg (N:=2) ?hd (cs:=#[.string a0_0,.int .i64 a0_1,.bool a0_2]) (t:=69) ?hr ?_;(case hd=>rfl);(case hg=>rfl);(case hr=>first|(go_simp;done)|(go_simp;rfl));intro gb419 hg w16 hbox hb;have n0_:=Zz.mk (qP (by repeat (first|(with_reducible first|exact HB.out|apply qA|apply qN|apply q1_)|exact HB.out)) hb);have n1_:=Zz.mk (hbox);have n2_:=Zz.mk ((by rw [hg];exact (qZ (by repeat (first|(with_reducible first|exact HB.out|apply qA|apply qN|apply q1_)|exact HB.out))):w.heap.size≤gb419));have n3_:=Zz.mk ((by rw [hg];exact (qZ (by repeat (first|(with_reducible first|exact HB.out|apply qA|apply qN|apply q1_)|exact HB.out))):w.heap.size≤gb419));clear HB;have HB:=n0_;have BK419:=n1_;have GW419:=n2_;have GE419:=n3_;clear n0_ n1_ n2_ n3_;clear hb hbox hg)|((with_reducible refine gate_dst (N:=3) rfl ?_);refine box_event ?hg (N:=3) ?hd (cs:=#[.string a1_0,.int .i64 a1_1,.bool a1_2]) (t:=69) ?hr ?_;(case hd=>rfl);(case hg=>rfl);(case hr=>first|(go_simp;done)|(go_simp;rfl));intro gb420 hg w17 hbox hb;have n0_:=Zz.mk (bB (g:=gb419) (o:=.cells #[.string a0_0,.int .i64 a0_1,.bool a0_2] 69 (0,0)) (by (with_reducible repeat first|apply bN|apply bD|apply bA);exact BK419.out) hb);have n1_:=Zz.mk (qP (by repeat (first|(with_reducible first|exact HB.out|apply qA|apply qN|apply q1_|refine qS ?_ GE419.out)|exact HB.out)) hb);have n2_:=Zz.mk (hbox);have n3_:=Zz.mk ((by rw [hg];exact (qZ (by repeat (first|(with_reducible first|exact HB.out|apply qA|apply qN|apply q1_|refine qS ?_ GE419.out)|exact HB.out))):w.heap.size≤gb420));have n4_:=Zz.mk ((by rw [hg];exact (qZ (by repeat (first|(with_reducible first|exact HB.out|apply qA|apply qN|apply q1_|refine qS ?_ GE419.out)|exact HB.out))):w.heap.size≤gb420));have n5_:=Zz.mk ((by rw [hg];exact Nat.ne_of_lt (blk_lt (g:=gb419) (o:=.cells #[.string a0_0,.int .i64 a0_1,.bool a0_2] 69 (0,0)) (by (with_reducible repeat first|apply bN|apply bD|apply bA);exact BK419.out)):gb419 ≠ gb420));have n6_:=Zz.mk ((by rw [hg];exact Nat.ne_of_gt (blk_lt (g:=gb419) (o:=.cells #[.string a0_0,.int .i64 a0_1,.bool a0_2] 69 (0,0)) (by (with_reducible repeat first|apply bN|apply bD|apply bA);exact BK419.out)):gb420 ≠ gb419));clear BK419;clear HB;have BK419:=n0_;have HB:=n1_;have BK420:=n2_;have GW420:=n3_;have GE420:=n4_;have NB419_420:=n5_;have NB420_419:=n6_;clear n0_ n1_ n2_ n3_ n4_ n5_ n6_;clear hb hbox hg;have hnb18:=NB419_420.out;have hnc18:=NB420_419.out;have hcz19_0:w17.cell? ⟨gb419,0,none⟩=some (.string a0_0):=(bC BK419.out 0).trans rfl;have hcz19_1:w17.cell? ⟨gb419,1,none⟩=some (.int .i64 a0_1):=(bC BK419.out 1).trans rfl;have hcz19_2:w17.cell? ⟨gb419,2,none⟩=some (.bool a0_2):=(bC BK419.out 2).trans rfl;have hfz19_0:=bF BK419.out 0;have hfz19_1:=bF BK419.out 1;have hfz19_2:=bF BK419.out 2;have hcz20_0:w17.cell? ⟨gb420,0,none⟩=some (.string a1_0):=(bC BK420.out 0).trans rfl;have hcz20_1:w17.cell? ⟨gb420,1,none⟩=some (.int .i64 a1_1):=(bC BK420.out 1).trans rfl;have hcz20_2:w17.cell? ⟨gb420,2,none⟩=some (.bool a1_2):=(bC BK420.out 2).trans rfl;have hfz20_0:=bF BK420.out 0;have hfz20_1:=bF BK420.out 1;have hfz20_2:=bF BK420.out 2))
   go_ret
   exact ⟨by first|rfl|(simp [errW_none,errW_some] <;> rfl)|(simp [*,errW_none,errW_some] <;> rfl),by repeat (first|(with_reducible first|exact HB.out|apply qA|apply qN|apply q1_|refine qS ?_ GE419.out|refine qS ?_ GE420.out)|exact HB.out)⟩
 ·rw [if_neg c3] at H
  have c3b0:(a0_0.toList == a1_0.toList)=false:=beq_eq_false_iff_ne.mpr c3
  have c3b1:(a0_0.toList != a1_0.toList)=true:=bne_iff_ne.mpr c3
  obtain rfl:=Option.some.inj H
  go_enter Try.func54,Try.ntmps54
  go_wp2_with (first|((with_reducible refine gate_dst (N:=2) rfl ?_);refine box_event ?hg (N:=2) ?hd (cs:=#[.string a0_0,.int .i64 a0_1,.bool a0_2]) (t:=69) ?hr ?_;(case hd=>rfl);(case hg=>rfl);(case hr=>first|(go_simp;done)|(go_simp;rfl));intro gb419 hg w21 hbox hb;have n0_:=Zz.mk (qP (by repeat (first|(with_reducible first|exact HB.out|apply qA|apply qN|apply q1_)|exact HB.out)) hb);have n1_:=Zz.mk (hbox);have n2_:=Zz.mk ((by rw [hg];exact (qZ (by repeat (first|(with_reducible first|exact HB.out|apply qA|apply qN|apply q1_)|exact HB.out))):w.heap.size≤gb419));have n3_:=Zz.mk ((by rw [hg];exact (qZ (by repeat (first|(with_reducible first|exact HB.out|apply qA|apply qN|apply q1_)|exact HB.out))):w.heap.size≤gb419));clear HB;have HB:=n0_;have BK419:=n1_;have GW419:=n2_;have GE419:=n3_;clear n0_ n1_ n2_ n3_;clear hb hbox hg)|((with_reducible refine gate_dst (N:=3) rfl ?_);refine box_event ?hg (N:=3) ?hd (cs:=#[.string a1_0,.int .i64 a1_1,.bool a1_2]) (t:=69) ?hr ?_;(case hd=>rfl);(case hg=>rfl);(case hr=>first|(go_simp;done)|(go_simp;rfl));intro gb420 hg w22 hbox hb;have n0_:=Zz.mk (bB (g:=gb419) (o:=.cells #[.string a0_0,.int .i64 a0_1,.bool a0_2] 69 (0,0)) (by (with_reducible repeat first|apply bN|apply bD|apply bA);exact BK419.out) hb);have n1_:=Zz.mk (qP (by repeat (first|(with_reducible first|exact HB.out|apply qA|apply qN|apply q1_|refine qS ?_ GE419.out)|exact HB.out)) hb);have n2_:=Zz.mk (hbox);have n3_:=Zz.mk ((by rw [hg];exact (qZ (by repeat (first|(with_reducible first|exact HB.out|apply qA|apply qN|apply q1_|refine qS ?_ GE419.out)|exact HB.out))):w.heap.size≤gb420));have n4_:=Zz.mk ((by rw [hg];exact (qZ (by repeat (first|(with_reducible first|exact HB.out|apply qA|apply qN|apply q1_|refine qS ?_ GE419.out)|exact HB.out))):w.heap.size≤gb420));have n5_:=Zz.mk ((by rw [hg];exact Nat.ne_of_lt (blk_lt (g:=gb419) (o:=.cells #[.string a0_0,.int .i64 a0_1,.bool a0_2] 69 (0,0)) (by (with_reducible repeat first|apply bN|apply bD|apply bA);exact BK419.out)):gb419 ≠ gb420));have n6_:=Zz.mk ((by rw [hg];exact Nat.ne_of_gt (blk_lt (g:=gb419) (o:=.cells #[.string a0_0,.int .i64 a0_1,.bool a0_2] 69 (0,0)) (by (with_reducible repeat first|apply bN|apply bD|apply bA);exact BK419.out)):gb420 ≠ gb419));clear BK419;clear HB;have BK419:=n0_;have HB:=n1_;have BK420:=n2_;have GW420:=n3_;have GE420:=n4_;have NB419_420:=n5_;have NB420_419:=n6_;clear n0_ n1_ n2_ n3_ n4_ n5_ n6_;clear hb hbox hg;have hnb23:=NB419_420.out;have hnc23:=NB420_419.out;have hcz24_0:w22.cell? ⟨gb419,0,none⟩=some (.string a0_0):=(bC BK419.out 0).trans rfl;have hcz24_1:w22.cell? ⟨gb419,1,none⟩=some (.int .i64 a0_1):=(bC BK419.out 1).trans rfl;have hcz24_2:w22.cell? ⟨gb419,2,none⟩=some (.bool a0_2):=(bC BK419.out 2).trans rfl;have hfz24_0:=bF BK419.out 0;have hfz24_1:=bF BK419.out 1;have hfz24_2:=bF BK419.out 2;have hcz25_0:w22.cell? ⟨gb420,0,none⟩=some (.string a1_0):=(bC BK420.out 0).trans rfl;have hcz25_1:w22.cell? ⟨gb420,1,none⟩=some (.int .i64 a1_1):=(bC BK420.out 1).trans rfl;have hcz25_2:w22.cell? ⟨gb420,2,none⟩=some (.bool a1_2):=(bC BK420.out 2).trans rfl;have hfz25_0:=bF BK420.out 0;have hfz25_1:=bF BK420.out 1;have hfz25_2:=bF BK420.out 2))
  go_ret
  exact ⟨by first|rfl|(simp [errW_none,errW_some] <;> rfl)|(simp [*,errW_none,errW_some] <;> rfl),by repeat (first|(with_reducible first|exact HB.out|apply qA|apply qN|apply q1_|refine qS ?_ GE419.out|refine qS ?_ GE420.out)|exact HB.out)⟩
def laws_eqBranchS.l0:Nat→List (S69)→List (S69)→Int→Option (Bool)
 | 0,_,_,_=>none
 | k+1,x0,x1,x5=>if x5<(x0.length:Int) then (if 0≤x5 then (if x5<(x1.length:Int) then ((laws_eqBranch.f ((rd_T69 x0 x5).f0) ((rd_T69 x0 x5).f1) ((rd_T69 x0 x5).f2) ((rd_T69 x1 x5).f0) ((rd_T69 x1 x5).f1) ((rd_T69 x1 x5).f2)).bind fun t423=>(if t423=true then (laws_eqBranchS.l0 k x0 x1 (wrap64 (x5+1))) else (some false))) else (none)) else (none)) else (some true)
def laws_eqBranchS.f (k:Nat) (l0:List (S69)) (l1:List (S69)):Option (Bool):=if (l0.length:Int)=(l1.length:Int) then (laws_eqBranchS.l0 k l0 l1 0) else (some false)
def laws_eqBranchS.T6:Bool × List (List Nat × List Nat):=(true,[([],[]),([],[]),([0,1],[0,1]),([2],[2]),([],[]),([],[]),([4,5],[4,5]),([6],[6]),([3,7],[3,7]),([8],[8])])
def laws_eqBranchS.B6:List Nat:=[0,0,3,7,0,0,48,112,255,511]
theorem laws_eqBranchS.tab6:rtab .any (opsOf Try.f29 6)=laws_eqBranchS.T6:=by kernel_rfl
theorem laws_eqBranchS.bits6:waitsOk laws_eqBranchS.T6.2 laws_eqBranchS.B6=true:=by kernel_rfl
set_option maxHeartbeats 8000000 in
set_option maxRecDepth 100000 in
theorem laws_eqBranchS.calls (k:Nat) (A0:Option Addr) (c0:Nat) (l0:List (S69)) (A1:Option Addr) (c1:Nat) (l1:List (S69)) (r:Bool) (w:World) (hr0:Kd.C k69 w A0 l0.length l0) (hc0:l0.length≤c0) (hr1:Kd.C k69 w A1 l1.length l1) (hc1:l1.length≤c1) (h:laws_eqBranchS.f k l0 l1=some r) :
  Calls Try.prog 29 #[.slice A0 l0.length c0,.slice A1 l1.length c1] w fun e w'=>e=.returned (.bool r)∧Below w.heap.size w w':=by
 have hu69:=Try.underlying69
 have HR0:=Zz.mk hr0
 have HC0:=Zz.mk hc0
 clear hr0 hc0
 have HR1:=Zz.mk hr1
 have HC1:=Zz.mk hc1
 clear hr1 hc1
 have HB:=Zz.mk (Below.refl w.heap.size w)
 have H:(if (l0.length:Int)=(l1.length:Int) then (laws_eqBranchS.l0 k l0 l1 0) else (some false))=some r:=h
 clear h
 by_cases c3:(l0.length:Int)=(l1.length:Int)
 ·rw [if_pos c3] at H
  have c3b0:((l0.length:Int) == (l1.length:Int))=true:=beq_iff_eq.mpr c3
  have c3b1:((l0.length:Int) != (l1.length:Int))=false:=bne_eq_false_iff_eq.mpr c3
  have c3b2:(l0.length == l1.length)=true:=by first|simpa using c3|(simp at c3 ⊢;omega)
  clear c3
  have H':=Zz.mk H
  clear H
  go_enter Try.func29,Try.ntmps29
  go_wp2
  go_loopg [5] k (fun kq v5 w'=>∃ (x5_1:Int),v5=.int .i64 x5_1∧Zz (laws_eqBranchS.l0 kq l0 l1 x5_1=some r)∧Zz (kq≤k)∧Zz (Below w.heap.size w w'))
  case atStart=>exact ⟨(0),(by first|rfl|(simp;done)|(simp [*];done)),H',⟨Nat.le_refl _⟩,⟨by repeat (first|(with_reducible first|exact HB.out|apply qA|apply qN|apply q1_)|exact HB.out)⟩⟩
  case round =>
   clear H'
   try clear c1
   try clear c2
   try clear p2
   try clear c3
   try clear c3b0
   try clear c3b1
   try clear c3b2
   obtain ⟨x5_1,rfl,HA,HK1,HB⟩:=hrel
   cases gk with
   | zero=>exact absurd HA.out (by simp [laws_eqBranchS.l0])
   | succ k1 =>
    have H:=HA.out
    clear HA
    simp only [laws_eqBranchS.l0] at H
    by_cases c4:x5_1<(l0.length:Int)
    ·rw [if_pos c4] at H
     have c4b0:decide (x5_1<(l0.length:Int))=true:=decide_eq_true c4
     clear c4
     by_cases c5:0≤x5_1
     ·rw [if_pos c5] at H
      have c5b0:decide (0≤x5_1)=true:=decide_eq_true c5
      clear c5
      by_cases c6:x5_1<(l1.length:Int)
      ·rw [if_pos c6] at H
       have c6b0:decide (x5_1<(l1.length:Int))=true:=decide_eq_true c6
       clear c6
       replace H:=Option.bind_eq_some_iff.mp H
       obtain ⟨t423,A70,H⟩:=H
       replace H:(if t423=true then (laws_eqBranchS.l0 k1 l0 l1 (wrap64 (x5_1+1))) else (some false))=some r:=H
       have A7:=Zz.mk A70
       clear A70
       by_cases c8:t423=true
       ·subst c8
        have H1:(laws_eqBranchS.l0 k1 l0 l1 (wrap64 (x5_1+1)))=some r:=by rw [if_pos rfl] at H;exact H
        clear H
        have H:=H1
        clear H1
        have H':=Zz.mk H
        clear H
        try go_wp2
        have n0_:=Zz.mk (q1_ HB.out)
        revert n0_
        clear HB
        intro HB
        have p421:0≤(x5_1:Int):=of_decide_eq_true (by first|(with_reducible assumption)|assumption)
        have q421:x5_1<(l0.length:Int):=of_decide_eq_true (by first|(with_reducible assumption)|assumption)
        obtain ⟨ad421,e421,hx421_0,hx421_1,hx421_2⟩:=at_T69 HR0.out x5_1 p421 q421
        have hw421_2:=hx421_2
        have hw421_1:=hx421_1
        have hw421_0:=hx421_0
        cases e421
        replace hx421_0:=(HB.out.cell (World.block_lt_of_cell? w _ hx421_0)).trans hx421_0
        replace hx421_1:=(HB.out.cell (World.block_lt_of_cell? w _ hx421_1)).trans hx421_1
        replace hx421_2:=(HB.out.cell (World.block_lt_of_cell? w _ hx421_2)).trans hx421_2
        replace p421:=eq_true p421
        replace q421:=eq_true q421
        have p422:0≤(x5_1:Int):=of_decide_eq_true (by first|(with_reducible assumption)|assumption)
        have q422:x5_1<(l1.length:Int):=of_decide_eq_true (by first|(with_reducible assumption)|assumption)
        obtain ⟨ad422,e422,hx422_0,hx422_1,hx422_2⟩:=at_T69 HR1.out x5_1 p422 q422
        have hw422_2:=hx422_2
        have hw422_1:=hx422_1
        have hw422_0:=hx422_0
        cases e422
        replace hx422_0:=(HB.out.cell (World.block_lt_of_cell? w _ hx422_0)).trans hx422_0
        replace hx422_1:=(HB.out.cell (World.block_lt_of_cell? w _ hx422_1)).trans hx422_1
        replace hx422_2:=(HB.out.cell (World.block_lt_of_cell? w _ hx422_2)).trans hx422_2
        replace p422:=eq_true p422
        replace q422:=eq_true q422
        refine start_ (n:=10) (S:=fun w'=>w'.cell? (ad421.add ((x5_1).toNat * 3))=some (.string ((rd_T69 l0 x5_1).f0))∧w'.cell? ⟨(ad421.add ((x5_1).toNat * 3)).block,(ad421.add ((x5_1).toNat * 3)).off+1,none⟩=some (.int .i64 ((rd_T69 l0 x5_1).f1))∧w'.cell? ⟨(ad421.add ((x5_1).toNat * 3)).block,(ad421.add ((x5_1).toNat * 3)).off+2,none⟩=some (.bool ((rd_T69 l0 x5_1).f2))∧w'.cell? (ad422.add ((x5_1).toNat * 3))=some (.string ((rd_T69 l1 x5_1).f0))∧w'.cell? ⟨(ad422.add ((x5_1).toNat * 3)).block,(ad422.add ((x5_1).toNat * 3)).off+1,none⟩=some (.int .i64 ((rd_T69 l1 x5_1).f1))∧w'.cell? ⟨(ad422.add ((x5_1).toNat * 3)).block,(ad422.add ((x5_1).toNat * 3)).off+2,none⟩=some (.bool ((rd_T69 l1 x5_1).f2))) (ds:=[]) #[false,false,false,false,false,false,false,false,false,false] (by kernel_rfl) rfl rfl ⟨((HB.out.cell (World.block_lt_of_cell? w _ hw421_0)).trans hw421_0),((HB.out.cell (World.block_lt_of_cell? w _ hw421_1)).trans hw421_1),((HB.out.cell (World.block_lt_of_cell? w _ hw421_2)).trans hw421_2),((HB.out.cell (World.block_lt_of_cell? w _ hw422_0)).trans hw422_0),((HB.out.cell (World.block_lt_of_cell? w _ hw422_1)).trans hw422_1),((HB.out.cell (World.block_lt_of_cell? w _ hw422_2)).trans hw422_2)⟩ (fun hHeld=>?_);refine with_tabW laws_eqBranchS.tab6 laws_eqBranchS.bits6 (fun HT_ HW_=>?_)
        generalize wr.drew=w9 at HB hx421_0 hx421_1 hx421_2 hx422_0 hx422_1 hx422_2 hHeld ⊢
        refine pure_ (i:=0) (N:=some 17) (v:=?_) (a':=?_) #[true,false,false,false,false,false,false,false,false,false] rfl rfl (any_of HT_.out (by kernel_rfl)) (fun _ _ _ h=>h) (Or.inl ⟨by rfl,?_⟩) ?_ ?_
        rotate_left
        ·intro w'
         go_simp
         with_reducible rfl
        rotate_left
        ·simp only [Act.put,List.setIfInBounds_toArray,List.set_cons_zero,List.set_cons_succ,i64_w,i32_w]
         rfl
        refine pure_ (i:=1) (N:=some 18) (v:=?_) (a':=?_) #[true,true,false,false,false,false,false,false,false,false] rfl rfl (any_of HT_.out (by kernel_rfl)) (fun _ _ _ h=>h) (Or.inl ⟨by rfl,?_⟩) ?_ ?_
        rotate_left
        ·intro w'
         go_simp
         with_reducible rfl
        rotate_left
        ·simp only [Act.put,List.setIfInBounds_toArray,List.set_cons_zero,List.set_cons_succ,i64_w,i32_w]
         rfl
        refine pure_ (i:=2) (N:=some 19) (v:=?_) (a':=?_) #[true,true,true,false,false,false,false,false,false,false] rfl rfl (any_of HT_.out (by kernel_rfl)) (fun _ _ _ h=>h) (Or.inl ⟨by rfl,?_⟩) ?_ ?_
        rotate_left
        ·intro w'
         go_simp
         with_reducible rfl
        rotate_left
        ·simp only [Act.put,List.setIfInBounds_toArray,List.set_cons_zero,List.set_cons_succ,i64_w,i32_w]
         rfl
        refine pure_ (i:=4) (N:=some 21) (v:=?_) (a':=?_) #[true,true,true,false,true,false,false,false,false,false] rfl rfl (any_of HT_.out (by kernel_rfl)) (fun _ _ _ h=>h) (Or.inl ⟨by rfl,?_⟩) ?_ ?_
        rotate_left
        ·intro w'
         go_simp
         with_reducible rfl
        rotate_left
        ·simp only [Act.put,List.setIfInBounds_toArray,List.set_cons_zero,List.set_cons_succ,i64_w,i32_w]
         rfl
        refine pure_ (i:=5) (N:=some 22) (v:=?_) (a':=?_) #[true,true,true,false,true,true,false,false,false,false] rfl rfl (any_of HT_.out (by kernel_rfl)) (fun _ _ _ h=>h) (Or.inl ⟨by rfl,?_⟩) ?_ ?_
        rotate_left
        ·intro w'
         go_simp
         with_reducible rfl
        rotate_left
        ·simp only [Act.put,List.setIfInBounds_toArray,List.set_cons_zero,List.set_cons_succ,i64_w,i32_w]
         rfl
        refine pure_ (i:=6) (N:=some 23) (v:=?_) (a':=?_) #[true,true,true,false,true,true,true,false,false,false] rfl rfl (any_of HT_.out (by kernel_rfl)) (fun _ _ _ h=>h) (Or.inl ⟨by rfl,?_⟩) ?_ ?_
        rotate_left
        ·intro w'
         go_simp
         with_reducible rfl
        rotate_left
        ·simp only [Act.put,List.setIfInBounds_toArray,List.set_cons_zero,List.set_cons_succ,i64_w,i32_w]
         rfl
        refine take_ (i:=3) (N:=some 20) (v:=?_) (a':=?_) #[true,true,true,true,true,true,true,false,false,false] rfl rfl (take_ofW HT_.out HW_.out (by kernel_rfl)) (fun _ _ _ h=>h) (Or.inl ⟨by rfl,?_⟩) hHeld ?_ ?_
        rotate_left
        ·rintro w' ⟨s0,s1,s2,s3,s4,s5⟩
         go_simp
         with_reducible rfl
        rotate_left
        ·simp only [Act.put,List.setIfInBounds_toArray,List.set_cons_zero,List.set_cons_succ,i64_w,i32_w]
         rfl
        refine take_ (i:=7) (N:=some 24) (v:=?_) (a':=?_) #[true,true,true,true,true,true,true,true,false,false] rfl rfl (take_ofW HT_.out HW_.out (by kernel_rfl)) (fun _ _ _ h=>h) (Or.inl ⟨by rfl,?_⟩) hHeld ?_ ?_
        rotate_left
        ·rintro w' ⟨s0,s1,s2,s3,s4,s5⟩
         go_simp
         with_reducible rfl
        rotate_left
        ·simp only [Act.put,List.setIfInBounds_toArray,List.set_cons_zero,List.set_cons_succ,i64_w,i32_w]
         rfl
        refine one_ (i:=8) (N:=some 25) #[true,true,true,true,true,true,true,true,true,false] rfl rfl (one_of HT_.out (by kernel_rfl)) (by decide) (fun K hK=>?_)
        refine goes_ Try.func54 (by kernel_rfl) rfl #[.agg #[.string ((rd_T69 l0 x5_1).f0),.int .i64 ((rd_T69 l0 x5_1).f1),.bool ((rd_T69 l0 x5_1).f2)],.agg #[.string ((rd_T69 l1 x5_1).f0),.int .i64 ((rd_T69 l1 x5_1).f1),.bool ((rd_T69 l1 x5_1).f2)]] (by rfl) rfl rfl (by (try simp only [List.map_toArray,List.map_cons,List.map_nil]);first|done|rfl|(simp only [List.length_drop,List.length_take];rfl)) ?_
        with_reducible refine (laws_eqBranch.calls ((rd_T69 l0 x5_1).f0) ((rd_T69 l0 x5_1).f1) ((rd_T69 l0 x5_1).f2) ((rd_T69 l1 x5_1).f0) ((rd_T69 l1 x5_1).f1) ((rd_T69 l1 x5_1).f2) true _ A7.out).mono ?_
        rintro e w10 ⟨rfl,hb⟩
        refine ⟨_,rfl,?_⟩
        have n0_:=Zz.mk (qP HB.out hb)
        revert n0_
        clear HB
        intro HB
        (try clear hb)
        (try clear hb2)
        (try clear hk)
        (try clear hi)
        refine hK.out _ _ ⟨((HB.out.cell (World.block_lt_of_cell? w _ hw421_0)).trans hw421_0),((HB.out.cell (World.block_lt_of_cell? w _ hw421_1)).trans hw421_1),((HB.out.cell (World.block_lt_of_cell? w _ hw421_2)).trans hw421_2),((HB.out.cell (World.block_lt_of_cell? w _ hw422_0)).trans hw422_0),((HB.out.cell (World.block_lt_of_cell? w _ hw422_1)).trans hw422_1),((HB.out.cell (World.block_lt_of_cell? w _ hw422_2)).trans hw422_2)⟩ (fun hHeld=>?_)
        clear hK K
        refine norm_ (a':=?_) ?_ ?_
        rotate_left
        ·show Act.put _ (some 25) _=_
         simp only [Act.put,List.setIfInBounds_toArray,List.set_cons_zero,List.set_cons_succ,i64_w,i32_w]
         rfl
        refine pure_ (i:=9) (N:=some 26) (v:=?_) (a':=?_) #[true,true,true,true,true,true,true,true,true,true] rfl rfl (any_of HT_.out (by kernel_rfl)) (fun _ _ _ h=>h) (Or.inl ⟨by rfl,?_⟩) ?_ ?_
        rotate_left
        ·intro w'
         go_simp
         with_reducible rfl
        rotate_left
        ·simp only [Act.put,List.setIfInBounds_toArray,List.set_cons_zero,List.set_cons_succ,i64_w,i32_w]
         rfl
        refine done_ (done_of HT_.out (by kernel_rfl)) ?_
        try go_wp2
        go_roundg k1
        case measure=>have:=HK1.out;omega
        case rel=>exact ⟨(wrap64 (x5_1+1)),(by first|rfl|(simp;done)|(simp [*];done)),H',⟨by have:=HK1.out;omega⟩,⟨by repeat (first|(with_reducible first|exact HB.out|apply qA|apply qN|apply q1_)|exact HB.out)⟩⟩
       ·replace c8:=Bool.eq_false_iff.mpr c8
        subst c8
        have H1:(some false)=some r:=by rw [if_neg (show ¬ (false=true) by decide)] at H;exact H
        clear H
        have H:=H1
        clear H1
        obtain rfl:=Option.some.inj H
        try go_wp2
        have n0_:=Zz.mk (q1_ HB.out)
        revert n0_
        clear HB
        intro HB
        have p421:0≤(x5_1:Int):=of_decide_eq_true (by first|(with_reducible assumption)|assumption)
        have q421:x5_1<(l0.length:Int):=of_decide_eq_true (by first|(with_reducible assumption)|assumption)
        obtain ⟨ad421,e421,hx421_0,hx421_1,hx421_2⟩:=at_T69 HR0.out x5_1 p421 q421
        have hw421_2:=hx421_2
        have hw421_1:=hx421_1
        have hw421_0:=hx421_0
        cases e421
        replace hx421_0:=(HB.out.cell (World.block_lt_of_cell? w _ hx421_0)).trans hx421_0
        replace hx421_1:=(HB.out.cell (World.block_lt_of_cell? w _ hx421_1)).trans hx421_1
        replace hx421_2:=(HB.out.cell (World.block_lt_of_cell? w _ hx421_2)).trans hx421_2
        replace p421:=eq_true p421
        replace q421:=eq_true q421
        have p422:0≤(x5_1:Int):=of_decide_eq_true (by first|(with_reducible assumption)|assumption)
        have q422:x5_1<(l1.length:Int):=of_decide_eq_true (by first|(with_reducible assumption)|assumption)
        obtain ⟨ad422,e422,hx422_0,hx422_1,hx422_2⟩:=at_T69 HR1.out x5_1 p422 q422
        have hw422_2:=hx422_2
        have hw422_1:=hx422_1
        have hw422_0:=hx422_0
        cases e422
        replace hx422_0:=(HB.out.cell (World.block_lt_of_cell? w _ hx422_0)).trans hx422_0
        replace hx422_1:=(HB.out.cell (World.block_lt_of_cell? w _ hx422_1)).trans hx422_1
        replace hx422_2:=(HB.out.cell (World.block_lt_of_cell? w _ hx422_2)).trans hx422_2
        replace p422:=eq_true p422
        replace q422:=eq_true q422
        refine start_ (n:=10) (S:=fun w'=>w'.cell? (ad421.add ((x5_1).toNat * 3))=some (.string ((rd_T69 l0 x5_1).f0))∧w'.cell? ⟨(ad421.add ((x5_1).toNat * 3)).block,(ad421.add ((x5_1).toNat * 3)).off+1,none⟩=some (.int .i64 ((rd_T69 l0 x5_1).f1))∧w'.cell? ⟨(ad421.add ((x5_1).toNat * 3)).block,(ad421.add ((x5_1).toNat * 3)).off+2,none⟩=some (.bool ((rd_T69 l0 x5_1).f2))∧w'.cell? (ad422.add ((x5_1).toNat * 3))=some (.string ((rd_T69 l1 x5_1).f0))∧w'.cell? ⟨(ad422.add ((x5_1).toNat * 3)).block,(ad422.add ((x5_1).toNat * 3)).off+1,none⟩=some (.int .i64 ((rd_T69 l1 x5_1).f1))∧w'.cell? ⟨(ad422.add ((x5_1).toNat * 3)).block,(ad422.add ((x5_1).toNat * 3)).off+2,none⟩=some (.bool ((rd_T69 l1 x5_1).f2))) (ds:=[]) #[false,false,false,false,false,false,false,false,false,false] (by kernel_rfl) rfl rfl ⟨((HB.out.cell (World.block_lt_of_cell? w _ hw421_0)).trans hw421_0),((HB.out.cell (World.block_lt_of_cell? w _ hw421_1)).trans hw421_1),((HB.out.cell (World.block_lt_of_cell? w _ hw421_2)).trans hw421_2),((HB.out.cell (World.block_lt_of_cell? w _ hw422_0)).trans hw422_0),((HB.out.cell (World.block_lt_of_cell? w _ hw422_1)).trans hw422_1),((HB.out.cell (World.block_lt_of_cell? w _ hw422_2)).trans hw422_2)⟩ (fun hHeld=>?_);refine with_tabW laws_eqBranchS.tab6 laws_eqBranchS.bits6 (fun HT_ HW_=>?_)
        generalize wr.drew=w11 at HB hx421_0 hx421_1 hx421_2 hx422_0 hx422_1 hx422_2 hHeld ⊢
        refine pure_ (i:=0) (N:=some 17) (v:=?_) (a':=?_) #[true,false,false,false,false,false,false,false,false,false] rfl rfl (any_of HT_.out (by kernel_rfl)) (fun _ _ _ h=>h) (Or.inl ⟨by rfl,?_⟩) ?_ ?_
        rotate_left
        ·intro w'
         go_simp
         with_reducible rfl
        rotate_left
        ·simp only [Act.put,List.setIfInBounds_toArray,List.set_cons_zero,List.set_cons_succ,i64_w,i32_w]
         rfl
        refine pure_ (i:=1) (N:=some 18) (v:=?_) (a':=?_) #[true,true,false,false,false,false,false,false,false,false] rfl rfl (any_of HT_.out (by kernel_rfl)) (fun _ _ _ h=>h) (Or.inl ⟨by rfl,?_⟩) ?_ ?_
        rotate_left
        ·intro w'
         go_simp
         with_reducible rfl
        rotate_left
        ·simp only [Act.put,List.setIfInBounds_toArray,List.set_cons_zero,List.set_cons_succ,i64_w,i32_w]
         rfl
        refine pure_ (i:=2) (N:=some 19) (v:=?_) (a':=?_) #[true,true,true,false,false,false,false,false,false,false] rfl rfl (any_of HT_.out (by kernel_rfl)) (fun _ _ _ h=>h) (Or.inl ⟨by rfl,?_⟩) ?_ ?_
        rotate_left
        ·intro w'
         go_simp
         with_reducible rfl
        rotate_left
        ·simp only [Act.put,List.setIfInBounds_toArray,List.set_cons_zero,List.set_cons_succ,i64_w,i32_w]
         rfl
        refine pure_ (i:=4) (N:=some 21) (v:=?_) (a':=?_) #[true,true,true,false,true,false,false,false,false,false] rfl rfl (any_of HT_.out (by kernel_rfl)) (fun _ _ _ h=>h) (Or.inl ⟨by rfl,?_⟩) ?_ ?_
        rotate_left
        ·intro w'
         go_simp
         with_reducible rfl
        rotate_left
        ·simp only [Act.put,List.setIfInBounds_toArray,List.set_cons_zero,List.set_cons_succ,i64_w,i32_w]
         rfl
        refine pure_ (i:=5) (N:=some 22) (v:=?_) (a':=?_) #[true,true,true,false,true,true,false,false,false,false] rfl rfl (any_of HT_.out (by kernel_rfl)) (fun _ _ _ h=>h) (Or.inl ⟨by rfl,?_⟩) ?_ ?_
        rotate_left
        ·intro w'
         go_simp
         with_reducible rfl
        rotate_left
        ·simp only [Act.put,List.setIfInBounds_toArray,List.set_cons_zero,List.set_cons_succ,i64_w,i32_w]
         rfl
        refine pure_ (i:=6) (N:=some 23) (v:=?_) (a':=?_) #[true,true,true,false,true,true,true,false,false,false] rfl rfl (any_of HT_.out (by kernel_rfl)) (fun _ _ _ h=>h) (Or.inl ⟨by rfl,?_⟩) ?_ ?_
        rotate_left
        ·intro w'
         go_simp
         with_reducible rfl
        rotate_left
        ·simp only [Act.put,List.setIfInBounds_toArray,List.set_cons_zero,List.set_cons_succ,i64_w,i32_w]
         rfl
        refine take_ (i:=3) (N:=some 20) (v:=?_) (a':=?_) #[true,true,true,true,true,true,true,false,false,false] rfl rfl (take_ofW HT_.out HW_.out (by kernel_rfl)) (fun _ _ _ h=>h) (Or.inl ⟨by rfl,?_⟩) hHeld ?_ ?_
        rotate_left
        ·rintro w' ⟨s0,s1,s2,s3,s4,s5⟩
         go_simp
         with_reducible rfl
        rotate_left
        ·simp only [Act.put,List.setIfInBounds_toArray,List.set_cons_zero,List.set_cons_succ,i64_w,i32_w]
         rfl
        refine take_ (i:=7) (N:=some 24) (v:=?_) (a':=?_) #[true,true,true,true,true,true,true,true,false,false] rfl rfl (take_ofW HT_.out HW_.out (by kernel_rfl)) (fun _ _ _ h=>h) (Or.inl ⟨by rfl,?_⟩) hHeld ?_ ?_
        rotate_left
        ·rintro w' ⟨s0,s1,s2,s3,s4,s5⟩
         go_simp
         with_reducible rfl
        rotate_left
        ·simp only [Act.put,List.setIfInBounds_toArray,List.set_cons_zero,List.set_cons_succ,i64_w,i32_w]
         rfl
        refine one_ (i:=8) (N:=some 25) #[true,true,true,true,true,true,true,true,true,false] rfl rfl (one_of HT_.out (by kernel_rfl)) (by decide) (fun K hK=>?_)
        refine goes_ Try.func54 (by kernel_rfl) rfl #[.agg #[.string ((rd_T69 l0 x5_1).f0),.int .i64 ((rd_T69 l0 x5_1).f1),.bool ((rd_T69 l0 x5_1).f2)],.agg #[.string ((rd_T69 l1 x5_1).f0),.int .i64 ((rd_T69 l1 x5_1).f1),.bool ((rd_T69 l1 x5_1).f2)]] (by rfl) rfl rfl (by (try simp only [List.map_toArray,List.map_cons,List.map_nil]);first|done|rfl|(simp only [List.length_drop,List.length_take];rfl)) ?_
        with_reducible refine (laws_eqBranch.calls ((rd_T69 l0 x5_1).f0) ((rd_T69 l0 x5_1).f1) ((rd_T69 l0 x5_1).f2) ((rd_T69 l1 x5_1).f0) ((rd_T69 l1 x5_1).f1) ((rd_T69 l1 x5_1).f2) false _ A7.out).mono ?_
        rintro e w12 ⟨rfl,hb⟩
        refine ⟨_,rfl,?_⟩
        have n0_:=Zz.mk (qP HB.out hb)
        revert n0_
        clear HB
        intro HB
        (try clear hb)
        (try clear hb2)
        (try clear hk)
        (try clear hi)
        refine hK.out _ _ ⟨((HB.out.cell (World.block_lt_of_cell? w _ hw421_0)).trans hw421_0),((HB.out.cell (World.block_lt_of_cell? w _ hw421_1)).trans hw421_1),((HB.out.cell (World.block_lt_of_cell? w _ hw421_2)).trans hw421_2),((HB.out.cell (World.block_lt_of_cell? w _ hw422_0)).trans hw422_0),((HB.out.cell (World.block_lt_of_cell? w _ hw422_1)).trans hw422_1),((HB.out.cell (World.block_lt_of_cell? w _ hw422_2)).trans hw422_2)⟩ (fun hHeld=>?_)
        clear hK K
        refine norm_ (a':=?_) ?_ ?_
        rotate_left
        ·show Act.put _ (some 25) _=_
         simp only [Act.put,List.setIfInBounds_toArray,List.set_cons_zero,List.set_cons_succ,i64_w,i32_w]
         rfl
        refine pure_ (i:=9) (N:=some 26) (v:=?_) (a':=?_) #[true,true,true,true,true,true,true,true,true,true] rfl rfl (any_of HT_.out (by kernel_rfl)) (fun _ _ _ h=>h) (Or.inl ⟨by rfl,?_⟩) ?_ ?_
        rotate_left
        ·intro w'
         go_simp
         with_reducible rfl
        rotate_left
        ·simp only [Act.put,List.setIfInBounds_toArray,List.set_cons_zero,List.set_cons_succ,i64_w,i32_w]
         rfl
        refine done_ (done_of HT_.out (by kernel_rfl)) ?_
        try go_wp2
        go_ret
        exact ⟨by first|rfl|(simp [errW_none,errW_some] <;> rfl)|(simp [*,errW_none,errW_some] <;> rfl),by repeat (first|(with_reducible first|exact HB.out|apply qA|apply qN|apply q1_)|exact HB.out)⟩
      ·rw [if_neg c6] at H
       exact absurd H (by simp)
     ·rw [if_neg c5] at H
      exact absurd H (by simp)
    ·rw [if_neg c4] at H
     have c4b0:decide (x5_1<(l0.length:Int))=false:=decide_eq_false c4
     clear c4
     obtain rfl:=Option.some.inj H
     go_wp2
     go_ret
     exact ⟨by first|rfl|(simp [errW_none,errW_some] <;> rfl)|(simp [*,errW_none,errW_some] <;> rfl),by repeat (first|(with_reducible first|exact HB.out|apply qA|apply qN|apply q1_)|exact HB.out)⟩
 ·rw [if_neg c3] at H
  have c3b0:((l0.length:Int) == (l1.length:Int))=false:=beq_eq_false_iff_ne.mpr c3
  have c3b1:((l0.length:Int) != (l1.length:Int))=true:=bne_iff_ne.mpr c3
  have c3b2:(l0.length == l1.length)=false:=by first|simpa using c3|(simp at c3 ⊢;omega)
  obtain rfl:=Option.some.inj H
  go_enter Try.func29,Try.ntmps29
  go_wp2
  go_ret
  exact ⟨by first|rfl|(simp [errW_none,errW_some] <;> rfl)|(simp [*,errW_none,errW_some] <;> rfl),by repeat (first|(with_reducible first|exact HB.out|apply qA|apply qN|apply q1_)|exact HB.out)⟩
def laws_eqPressed.f (k:Nat) (l0_0:List (S69)) (l1_0:List (S69)):Option (Bool):=(laws_eqBranchS.f k l0_0 l1_0).bind fun t426=>(if t426=true then (some true) else (some false))
set_option maxHeartbeats 8000000 in
set_option maxRecDepth 100000 in
theorem laws_eqPressed.calls (k:Nat) (A0_0:Option Addr) (c0_0:Nat) (l0_0:List (S69)) (A1_0:Option Addr) (c1_0:Nat) (l1_0:List (S69)) (r:Bool) (w:World) (hr0_0:Kd.C k69 w A0_0 l0_0.length l0_0) (hc0_0:l0_0.length≤c0_0) (hr1_0:Kd.C k69 w A1_0 l1_0.length l1_0) (hc1_0:l1_0.length≤c1_0) (h:laws_eqPressed.f k l0_0 l1_0=some r) :
  Calls Try.prog 14 #[.agg #[.slice A0_0 l0_0.length c0_0],.agg #[.slice A1_0 l1_0.length c1_0]] w fun e w'=>e=.returned (.bool r)∧Below w.heap.size w w':=by
 have hu36:=Try.underlying36
 have HR0_0:=Zz.mk hr0_0
 have HC0_0:=Zz.mk hc0_0
 clear hr0_0 hc0_0
 have HR1_0:=Zz.mk hr1_0
 have HC1_0:=Zz.mk hc1_0
 clear hr1_0 hc1_0
 have HB:=Zz.mk (Below.refl w.heap.size w)
 have H:((laws_eqBranchS.f k l0_0 l1_0).bind fun t426=>(if t426=true then (some true) else (some false)))=some r:=h
 clear h
 replace H:=Option.bind_eq_some_iff.mp H
 obtain ⟨t426,A30,H⟩:=H
 replace H:(if t426=true then (some true) else (some false))=some r:=H
 have A3:=Zz.mk A30
 clear A30
 by_cases c4:t426=true
 ·subst c4
  have H1:(some true)=some r:=by rw [if_pos rfl] at H;exact H
  clear H
  have H:=H1
  clear H1
  obtain rfl:=Option.some.inj H
  go_enter Try.func14,Try.ntmps14
  go_wp2_with (first|((with_reducible refine gate_dst (N:=2) rfl ?_);refine box_event ?hg (N:=2) ?hd (cs:=#[.slice A0_0 l0_0.length c0_0]) (t:=36) ?hr ?_;(case hd=>rfl);(case hg=>rfl);(case hr=>first|(go_simp;done)|(go_simp;rfl));intro gb424 hg w5 hbox hb;have n0_:=Zz.mk (qP (by repeat (first|(with_reducible first|exact HB.out|apply qA|apply qN|apply q1_)|exact HB.out)) hb);have n1_:=Zz.mk (hbox);have n2_:=Zz.mk ((by rw [hg];exact (qZ (by repeat (first|(with_reducible first|exact HB.out|apply qA|apply qN|apply q1_)|exact HB.out))):w.heap.size≤gb424));have n3_:=Zz.mk ((by rw [hg];exact (qZ (by repeat (first|(with_reducible first|exact HB.out|apply qA|apply qN|apply q1_)|exact HB.out))):w.heap.size≤gb424));clear HB;have HB:=n0_;have BK424:=n1_;have GW424:=n2_;have GE424:=n3_;clear n0_ n1_ n2_ n3_;clear hb hbox hg)|((with_reducible refine gate_dst (N:=3) rfl ?_);refine box_event ?hg (N:=3) ?hd (cs:=#[.slice A1_0 l1_0.length c1_0]) (t:=36) ?hr ?_;(case hd=>rfl);(case hg=>rfl);(case hr=>first|(go_simp;done)|(go_simp;rfl));intro gb425 hg w6 hbox hb;have n0_:=Zz.mk (bB (g:=gb424) (o:=.cells #[.slice A0_0 l0_0.length c0_0] 36 (0,0)) (by (with_reducible repeat first|apply bN|apply bD|apply bA);exact BK424.out) hb);have n1_:=Zz.mk (qP (by repeat (first|(with_reducible first|exact HB.out|apply qA|apply qN|apply q1_|refine qS ?_ GE424.out)|exact HB.out)) hb);have n2_:=Zz.mk (hbox);have n3_:=Zz.mk ((by rw [hg];exact (qZ (by repeat (first|(with_reducible first|exact HB.out|apply qA|apply qN|apply q1_|refine qS ?_ GE424.out)|exact HB.out))):w.heap.size≤gb425));have n4_:=Zz.mk ((by rw [hg];exact (qZ (by repeat (first|(with_reducible first|exact HB.out|apply qA|apply qN|apply q1_|refine qS ?_ GE424.out)|exact HB.out))):w.heap.size≤gb425));have n5_:=Zz.mk ((by rw [hg];exact Nat.ne_of_lt (blk_lt (g:=gb424) (o:=.cells #[.slice A0_0 l0_0.length c0_0] 36 (0,0)) (by (with_reducible repeat first|apply bN|apply bD|apply bA);exact BK424.out)):gb424 ≠ gb425));have n6_:=Zz.mk ((by rw [hg];exact Nat.ne_of_gt (blk_lt (g:=gb424) (o:=.cells #[.slice A0_0 l0_0.length c0_0] 36 (0,0)) (by (with_reducible repeat first|apply bN|apply bD|apply bA);exact BK424.out)):gb425 ≠ gb424));clear BK424;clear HB;have BK424:=n0_;have HB:=n1_;have BK425:=n2_;have GW425:=n3_;have GE425:=n4_;have NB424_425:=n5_;have NB425_424:=n6_;clear n0_ n1_ n2_ n3_ n4_ n5_ n6_;clear hb hbox hg;have hnb7:=NB424_425.out;have hnc7:=NB425_424.out;have hcz8_0:w6.cell? ⟨gb424,0,none⟩=some (.slice A0_0 l0_0.length c0_0):=(bC BK424.out 0).trans rfl;have hfz8_0:=bF BK424.out 0;have hcz9_0:w6.cell? ⟨gb425,0,none⟩=some (.slice A1_0 l1_0.length c1_0):=(bC BK425.out 0).trans rfl;have hfz9_0:=bF BK425.out 0)|((with_reducible refine gate_callee (f:=29) rfl ?_);refine goesL_ (some 9) rfl rfl Try.func29 (by kernel_rfl) rfl #[.slice A0_0 l0_0.length c0_0,.slice A1_0 l1_0.length c1_0] rfl (by (try simp only [List.map_toArray,List.map_cons,List.map_nil]);first|done|rfl|(simp only [List.length_drop,List.length_take];rfl)) ?_;(with_reducible refine (laws_eqBranchS.calls k _ _ l0_0 _ _ l1_0 true _ ?side1 ?side2 ?side3 ?side4 A3.out).mono ?_);(case side1=>repeat (first|exact (Kd.C_below HR0_0.out HB.out)|(with_reducible refine Kd.C_alloc ?_ _)|(with_reducible refine Kd.C_drewN ?_ _)|(with_reducible refine Kd.C_drew ?_)));(case side2=>exact HC0_0.out);(case side3=>repeat (first|exact (Kd.C_below HR1_0.out HB.out)|(with_reducible refine Kd.C_alloc ?_ _)|(with_reducible refine Kd.C_drewN ?_ _)|(with_reducible refine Kd.C_drew ?_)));(case side4=>exact HC1_0.out);rintro e w10 ⟨rfl,hb⟩;refine ⟨_,rfl,?_⟩;have n0_:=Zz.mk (bB (g:=gb424) (o:=.cells #[.slice A0_0 l0_0.length c0_0] 36 (0,0)) (by (with_reducible repeat first|apply bN|apply bD|apply bA);exact BK424.out) hb);have n1_:=Zz.mk (bB (g:=gb425) (o:=.cells #[.slice A1_0 l1_0.length c1_0] 36 (0,0)) (by (with_reducible repeat first|apply bN|apply bD|apply bA);exact BK425.out) hb);have n2_:=Zz.mk (qP (by repeat (first|(with_reducible first|exact HB.out|apply qA|apply qN|apply q1_|refine qS ?_ GE424.out|refine qS ?_ GE425.out)|exact HB.out)) hb);clear BK424;clear BK425;clear HB;have BK424:=n0_;have BK425:=n1_;have HB:=n2_;clear n0_ n1_ n2_;(try clear hb);(try clear hb2);(try clear hk);(try clear hi)))
  go_ret
  exact ⟨by first|rfl|(simp [errW_none,errW_some] <;> rfl)|(simp [*,errW_none,errW_some] <;> rfl),by repeat (first|(with_reducible first|exact HB.out|apply qA|apply qN|apply q1_|refine qS ?_ GE424.out|refine qS ?_ GE425.out)|exact HB.out)⟩
 ·replace c4:=Bool.eq_false_iff.mpr c4
  subst c4
  have H1:(some false)=some r:=by rw [if_neg (show ¬ (false=true) by decide)] at H;exact H
  clear H
  have H:=H1
  clear H1
  obtain rfl:=Option.some.inj H
  go_enter Try.func14,Try.ntmps14
  go_wp2_with (first|((with_reducible refine gate_dst (N:=2) rfl ?_);refine box_event ?hg (N:=2) ?hd (cs:=#[.slice A0_0 l0_0.length c0_0]) (t:=36) ?hr ?_;(case hd=>rfl);(case hg=>rfl);(case hr=>first|(go_simp;done)|(go_simp;rfl));intro gb424 hg w11 hbox hb;have n0_:=Zz.mk (qP (by repeat (first|(with_reducible first|exact HB.out|apply qA|apply qN|apply q1_)|exact HB.out)) hb);have n1_:=Zz.mk (hbox);have n2_:=Zz.mk ((by rw [hg];exact (qZ (by repeat (first|(with_reducible first|exact HB.out|apply qA|apply qN|apply q1_)|exact HB.out))):w.heap.size≤gb424));have n3_:=Zz.mk ((by rw [hg];exact (qZ (by repeat (first|(with_reducible first|exact HB.out|apply qA|apply qN|apply q1_)|exact HB.out))):w.heap.size≤gb424));clear HB;have HB:=n0_;have BK424:=n1_;have GW424:=n2_;have GE424:=n3_;clear n0_ n1_ n2_ n3_;clear hb hbox hg)|((with_reducible refine gate_dst (N:=3) rfl ?_);refine box_event ?hg (N:=3) ?hd (cs:=#[.slice A1_0 l1_0.length c1_0]) (t:=36) ?hr ?_;(case hd=>rfl);(case hg=>rfl);(case hr=>first|(go_simp;done)|(go_simp;rfl));intro gb425 hg w12 hbox hb;have n0_:=Zz.mk (bB (g:=gb424) (o:=.cells #[.slice A0_0 l0_0.length c0_0] 36 (0,0)) (by (with_reducible repeat first|apply bN|apply bD|apply bA);exact BK424.out) hb);have n1_:=Zz.mk (qP (by repeat (first|(with_reducible first|exact HB.out|apply qA|apply qN|apply q1_|refine qS ?_ GE424.out)|exact HB.out)) hb);have n2_:=Zz.mk (hbox);have n3_:=Zz.mk ((by rw [hg];exact (qZ (by repeat (first|(with_reducible first|exact HB.out|apply qA|apply qN|apply q1_|refine qS ?_ GE424.out)|exact HB.out))):w.heap.size≤gb425));have n4_:=Zz.mk ((by rw [hg];exact (qZ (by repeat (first|(with_reducible first|exact HB.out|apply qA|apply qN|apply q1_|refine qS ?_ GE424.out)|exact HB.out))):w.heap.size≤gb425));have n5_:=Zz.mk ((by rw [hg];exact Nat.ne_of_lt (blk_lt (g:=gb424) (o:=.cells #[.slice A0_0 l0_0.length c0_0] 36 (0,0)) (by (with_reducible repeat first|apply bN|apply bD|apply bA);exact BK424.out)):gb424 ≠ gb425));have n6_:=Zz.mk ((by rw [hg];exact Nat.ne_of_gt (blk_lt (g:=gb424) (o:=.cells #[.slice A0_0 l0_0.length c0_0] 36 (0,0)) (by (with_reducible repeat first|apply bN|apply bD|apply bA);exact BK424.out)):gb425 ≠ gb424));clear BK424;clear HB;have BK424:=n0_;have HB:=n1_;have BK425:=n2_;have GW425:=n3_;have GE425:=n4_;have NB424_425:=n5_;have NB425_424:=n6_;clear n0_ n1_ n2_ n3_ n4_ n5_ n6_;clear hb hbox hg;have hnb13:=NB424_425.out;have hnc13:=NB425_424.out;have hcz14_0:w12.cell? ⟨gb424,0,none⟩=some (.slice A0_0 l0_0.length c0_0):=(bC BK424.out 0).trans rfl;have hfz14_0:=bF BK424.out 0;have hcz15_0:w12.cell? ⟨gb425,0,none⟩=some (.slice A1_0 l1_0.length c1_0):=(bC BK425.out 0).trans rfl;have hfz15_0:=bF BK425.out 0)|((with_reducible refine gate_callee (f:=29) rfl ?_);refine goesL_ (some 9) rfl rfl Try.func29 (by kernel_rfl) rfl #[.slice A0_0 l0_0.length c0_0,.slice A1_0 l1_0.length c1_0] rfl (by (try simp only [List.map_toArray,List.map_cons,List.map_nil]);first|done|rfl|(simp only [List.length_drop,List.length_take];rfl)) ?_;(with_reducible refine (laws_eqBranchS.calls k _ _ l0_0 _ _ l1_0 false _ ?side1 ?side2 ?side3 ?side4 A3.out).mono ?_);(case side1=>repeat (first|exact (Kd.C_below HR0_0.out HB.out)|(with_reducible refine Kd.C_alloc ?_ _)|(with_reducible refine Kd.C_drewN ?_ _)|(with_reducible refine Kd.C_drew ?_)));(case side2=>exact HC0_0.out);(case side3=>repeat (first|exact (Kd.C_below HR1_0.out HB.out)|(with_reducible refine Kd.C_alloc ?_ _)|(with_reducible refine Kd.C_drewN ?_ _)|(with_reducible refine Kd.C_drew ?_)));(case side4=>exact HC1_0.out);rintro e w16 ⟨rfl,hb⟩;refine ⟨_,rfl,?_⟩;have n0_:=Zz.mk (bB (g:=gb424) (o:=.cells #[.slice A0_0 l0_0.length c0_0] 36 (0,0)) (by (with_reducible repeat first|apply bN|apply bD|apply bA);exact BK424.out) hb);have n1_:=Zz.mk (bB (g:=gb425) (o:=.cells #[.slice A1_0 l1_0.length c1_0] 36 (0,0)) (by (with_reducible repeat first|apply bN|apply bD|apply bA);exact BK425.out) hb);have n2_:=Zz.mk (qP (by repeat (first|(with_reducible first|exact HB.out|apply qA|apply qN|apply q1_|refine qS ?_ GE424.out|refine qS ?_ GE425.out)|exact HB.out)) hb);clear BK424;clear BK425;clear HB;have BK424:=n0_;have BK425:=n1_;have HB:=n2_;clear n0_ n1_ n2_;(try clear hb);(try clear hb2);(try clear hk);(try clear hi)))
  go_ret
  exact ⟨by first|rfl|(simp [errW_none,errW_some] <;> rfl)|(simp [*,errW_none,errW_some] <;> rfl),by repeat (first|(with_reducible first|exact HB.out|apply qA|apply qN|apply q1_|refine qS ?_ GE424.out|refine qS ?_ GE425.out)|exact HB.out)⟩
def laws_markText.l0:Nat→Int→ByteArray→Option (ByteArray)
 | 0,_,_=>none
 | k+1,x0,x3=>if x0 > 0 then ((some (([(wrap64 (48+(Int.tmod x0 10))) % 256]:List Int):List Int)).bind fun y427=>(if (strOfNums y427).size+x3.size≤9223372036854775807 then (laws_markText.l0 k (wrap64 (Int.tdiv x0 10)) ((strOfNums y427) ++ x3)) else (none))) else (if 1+x3.size≤9223372036854775807 then (some ((⟨#[109]⟩:ByteArray) ++ x3)) else (none))
def laws_markText.f (k:Nat) (a0:Int):Option (ByteArray):=if a0≤0 then (some (⟨#[109,48]⟩:ByteArray)) else (laws_markText.l0 k a0 (⟨#[]⟩:ByteArray))
set_option maxHeartbeats 8000000 in
set_option maxRecDepth 100000 in
theorem laws_markText.calls (k:Nat) (a0:Int) (r:ByteArray) (w:World) (h:laws_markText.f k a0=some r) :
  Calls Try.prog 55 #[.int .i64 a0] w fun e w'=>e=.returned (.string r)∧Below w.heap.size w w':=by
 have HB:=Zz.mk (Below.refl w.heap.size w)
 have H:(if a0≤0 then (some (⟨#[109,48]⟩:ByteArray)) else (laws_markText.l0 k a0 (⟨#[]⟩:ByteArray)))=some r:=h
 clear h
 by_cases c2:a0≤0
 ·rw [if_pos c2] at H
  have c2b0:decide (a0≤0)=true:=decide_eq_true c2
  clear c2
  obtain rfl:=Option.some.inj H
  go_enter Try.func55,Try.ntmps55
  go_wp2
  go_ret
  exact ⟨by first|rfl|(simp [errW_none,errW_some] <;> rfl)|(simp [*,errW_none,errW_some] <;> rfl),by repeat (first|(with_reducible first|exact HB.out|apply qA|apply qN|apply q1_)|exact HB.out)⟩
 ·rw [if_neg c2] at H
  have c2b0:decide (a0≤0)=false:=decide_eq_false c2
  clear c2
  have H':=Zz.mk H
  clear H
  go_enter Try.func55,Try.ntmps55
  go_wp2
  go_loopg [0,3] k (fun kq v0 v3 w'=>∃ (x0_1:Int) (x3_1:ByteArray),v0=.int .i64 x0_1∧v3=.string x3_1∧Zz (laws_markText.l0 kq x0_1 x3_1=some r)∧Zz (kq≤k)∧Zz (Below w.heap.size w w'))
  case atStart=>exact ⟨(a0),((⟨#[]⟩:ByteArray)),(by first|rfl|(simp;done)|(simp [*];done)),(by first|rfl|(simp;done)|(simp [*];done)),H',⟨Nat.le_refl _⟩,⟨by repeat (first|(with_reducible first|exact HB.out|apply qA|apply qN|apply q1_)|exact HB.out)⟩⟩
  case round =>
   clear H'
   try clear c2
   try clear c2b0
   try clear p2
   obtain ⟨x0_1,x3_1,rfl,rfl,HA,HK1,HB⟩:=hrel
   cases gk with
   | zero=>exact absurd HA.out (by simp [laws_markText.l0])
   | succ k1 =>
    have H:=HA.out
    clear HA
    simp only [laws_markText.l0] at H
    by_cases c3:x0_1 > 0
    ·rw [if_pos c3] at H
     have c3b0:decide (0<x0_1)=true:=decide_eq_true c3
     clear c3
     obtain ⟨y427,hy427⟩:∃ y_:List Int,y_=(([(wrap64 (48+(Int.tmod x0_1 10))) % 256]:List Int)):=⟨_,rfl⟩
     replace H:(if (strOfNums y427).size+x3_1.size≤9223372036854775807 then (laws_markText.l0 k1 (wrap64 (Int.tdiv x0_1 10)) ((strOfNums y427) ++ x3_1)) else (none))=some r:=by first|(rw [hy427];with_reducible exact H)|(have H2_:=(Option.bind_some _ _).symm.trans H;rw [hy427];with_reducible exact H2_)|(have H2_:=(Option.bind_some _ _).symm.trans H;with_reducible exact H2_)|with_reducible exact H|(rw [hy427];exact H)|exact H
     have Ny427:=Zz.mk hy427
     clear hy427
     by_cases c4:(strOfNums y427).size+x3_1.size≤9223372036854775807
     ·rw [if_pos c4] at H
      have c4b0:=eq_true c4
      have c4b1:decide ((strOfNums y427).size+x3_1.size≤9223372036854775807)=true:=decide_eq_true c4
      try have c4b2:(9223372036854775807<(strOfNums y427).size+x3_1.size)=False:=eq_false (Nat.not_lt.2 c4)
      have H':=Zz.mk H
      clear H
      go_wp2_with (first|((with_reducible refine gate_dst (N:=12) rfl ?_);refine Kd.R_lit (Kd.int .u8) _ 5 ?hg (N:=12) ?hd (xs:=([(wrap64 (48+(Int.tmod x0_1 10))) % 256]:List Int)) (inner:=[.int .u8 ((wrap64 (48+(Int.tmod x0_1 10))) % 256)]) (ok:=fun _=>True) (okp:=fun _=>True) ?hr ?hp (fun _ hk=>hk) trivial (Below.refl _ _) (Nat.le_refl _) (by simp) ?_;(case hd=>rfl);(case hg=>rfl);(case hr=>first|(go_simp;done)|(go_simp;rfl));(case hp=>exact (Reps.one (show Kd.M (Kd.int .u8) _ _ _ ((wrap64 (48+(Int.tmod x0_1 10))) % 256) [.int .u8 ((wrap64 (48+(Int.tmod x0_1 10))) % 256)] from rfl) (Reps.none _ _)));intro v428 w5 ho6 hb hg_ hnew_;clear hg_ hnew_;(first|rw [← Ny427.out] at ho6|(simp only [Int.reduceToNat] at ho6;rw [← Ny427.out] at ho6));have n0_:=Zz.mk (Kd.R_lower ho6 (qZ (by repeat (first|(with_reducible first|exact HB.out|apply qA|apply qN|apply q1_)|exact HB.out))));have n1_:=Zz.mk (qP (by repeat (first|(with_reducible first|exact HB.out|apply qA|apply qN|apply q1_)|exact HB.out)) hb);clear HB;have HO429:=n0_;have HB:=n1_;clear n0_ n1_;clear hb ho6;have hcv7:=own_string (P:=Try.prog) Try.underlying83 Try.underlying5 Try.underlying9 (Kd.own_of_R HO429.out)))
      go_roundg k1
      case measure=>have:=HK1.out;omega
      case rel=>exact ⟨(wrap64 (Int.tdiv x0_1 10)),((strOfNums y427) ++ x3_1),(by first|rfl|(simp;done)|(simp [*];done)),(by first|rfl|(simp;done)|(simp [*];done)),H',⟨by have:=HK1.out;omega⟩,⟨by repeat (first|(with_reducible first|exact HB.out|apply qA|apply qN|apply q1_)|exact HB.out)⟩⟩
     ·rw [if_neg c4] at H
      exact absurd H (by simp)
    ·rw [if_neg c3] at H
     have c3b0:decide (0<x0_1)=false:=decide_eq_false c3
     clear c3
     by_cases c8:1+x3_1.size≤9223372036854775807
     ·rw [if_pos c8] at H
      have c8b0:=eq_true c8
      have c8b1:decide (1+x3_1.size≤9223372036854775807)=true:=decide_eq_true c8
      try have c8b2:(9223372036854775807<1+x3_1.size)=False:=eq_false (Nat.not_lt.2 c8)
      obtain rfl:=Option.some.inj H
      go_wp2
      go_ret
      exact ⟨by first|rfl|(simp [errW_none,errW_some] <;> rfl)|(simp [*,errW_none,errW_some] <;> rfl),by repeat (first|(with_reducible first|exact HB.out|apply qA|apply qN|apply q1_)|exact HB.out)⟩
     ·rw [if_neg c8] at H
      exact absurd H (by simp)
def laws_markBranchS.l0:Nat→List (S69)→Int→Int→Option (Int × (List (S69)))
 | 0,_,_,_=>none
 | k+1,x0,x1,x5=>if x5<(x0.length:Int) then ((laws_markText.f k x1).bind fun t430=>(if 0≤x5 then ((some (x0.set (x5:Int).toNat (⟨t430,(rd_T69 x0 x5).f1,(rd_T69 x0 x5).f2⟩:S69):List (S69))).bind fun y431=>((some (y431.set (x5:Int).toNat (⟨(rd_T69 y431 x5).f0,wrap64 (x1+1),(rd_T69 y431 x5).f2⟩:S69):List (S69))).bind fun y432=>(laws_markBranchS.l0 k (y432.set (x5:Int).toNat (⟨(rd_T69 y432 x5).f0,(rd_T69 y432 x5).f1,((Int.tmod (wrap64 ((wrap64 (x1+1))+1)) 3) == 0)⟩:S69)) (wrap64 ((wrap64 ((wrap64 (x1+1))+1))+1)) (wrap64 (x5+1))))) else (none))) else (some (x1,x0))
def laws_markBranchS.f (k:Nat) (l0:List (S69)) (a1:Int):Option (Int × (List (S69))):=laws_markBranchS.l0 k l0 a1 0
set_option maxHeartbeats 8000000 in
set_option maxRecDepth 100000 in
theorem laws_markBranchS.calls (k:Nat) (P0_:Nat→Prop) (u9000_:Value) (l0:List (S69)) (a1:Int) (r1:Int) (r2:List (S69)) (w0 w:World) (hB:Below w0.heap.size w0 w) (ho0:Kd.R k69 69 w w0.heap.size P0_ u9000_ l0) (h:laws_markBranchS.f k l0 a1=some (r1,r2)) :
  Calls Try.prog 30 #[u9000_,.int .i64 a1] w fun e w'=>e=.returned (.int .i64 r1)∧Kd.R k69 69 w' w0.heap.size (fun k_=>(P0_ k_∨w.heap.size≤k_)) u9000_ r2∧Below w0.heap.size w0 w'∧Kept w w' (fun k_=>P0_ k_):=by
 have HO0:=Zz.mk (show Kd.R k69 69 w w0.heap.size (fun k_=>(P0_ k_∨w.heap.size≤k_)) u9000_ l0 from Kd.R_mono ho0 (fun k_ hk=>(.inl hk)))
 have HK:=Zz.mk (Kept.refl w (fun k_=>P0_ k_))
 have HW0:=Zz.mk hB.size
 have HB:=Zz.mk hB
 clear hB
 have H:(laws_markBranchS.l0 k l0 a1 0)=some (r1,r2):=h
 clear h
 have H':=Zz.mk H
 clear H
 go_enter Try.func30,Try.ntmps30
 go_wp2
 go_loopg [1,5] k (fun kq v1 v5 w'=>∃ (x0_1:List (S69)) (x1_1:Int) (x5_1:Int),v1=.int .i64 x1_1∧v5=.int .i64 x5_1∧Zz (laws_markBranchS.l0 kq x0_1 x1_1 x5_1=some (r1,r2))∧Zz (kq≤k)∧Zz (Kd.R k69 69 w' w0.heap.size (fun k_=>(P0_ k_∨w.heap.size≤k_)) u9000_ x0_1)∧Zz (Kept w w' (fun k_=>P0_ k_))∧Zz (Below w0.heap.size w0 w'))
 case atStart=>exact ⟨(l0),(a1),(0),(by first|rfl|(simp;done)|(simp [*];done)),(by first|rfl|(simp;done)|(simp [*];done)),H',⟨Nat.le_refl _⟩,⟨by (with_reducible repeat first|apply Kd.R_alloc|apply Kd.R_drewN|apply Kd.R_drew);exact HO0.out⟩,⟨by repeat (first|(with_reducible first|exact HK.out|apply Kept.alloc|apply Kept.drewN|apply Kept.drew)|exact HK.out)⟩,⟨by repeat (first|(with_reducible first|exact HB.out|apply qA|apply qN|apply q1_)|exact HB.out)⟩⟩
 case round =>
  clear H'
  try clear p2
  obtain ⟨x0_1,x1_1,x5_1,rfl,rfl,HA,HK1,HO_0,HK,HB⟩:=hrel
  cases gk with
  | zero=>exact absurd HA.out (by simp [laws_markBranchS.l0])
  | succ k1 =>
   have H:=HA.out
   clear HA
   simp only [laws_markBranchS.l0] at H
   by_cases c3:x5_1<(x0_1.length:Int)
   ·rw [if_pos c3] at H
    have c3b0:decide (x5_1<(x0_1.length:Int))=true:=decide_eq_true c3
    clear c3
    replace H:=Option.bind_eq_some_iff.mp H
    obtain ⟨t430,A40,H⟩:=H
    replace H:(if 0≤x5_1 then ((some (x0_1.set (x5_1:Int).toNat (⟨t430,(rd_T69 x0_1 x5_1).f1,(rd_T69 x0_1 x5_1).f2⟩:S69):List (S69))).bind fun y431=>((some (y431.set (x5_1:Int).toNat (⟨(rd_T69 y431 x5_1).f0,wrap64 (x1_1+1),(rd_T69 y431 x5_1).f2⟩:S69):List (S69))).bind fun y432=>(laws_markBranchS.l0 k1 (y432.set (x5_1:Int).toNat (⟨(rd_T69 y432 x5_1).f0,(rd_T69 y432 x5_1).f1,((Int.tmod (wrap64 ((wrap64 (x1_1+1))+1)) 3) == 0)⟩:S69)) (wrap64 ((wrap64 ((wrap64 (x1_1+1))+1))+1)) (wrap64 (x5_1+1))))) else (none))=some (r1,r2):=H
    have A4:=Zz.mk A40
    clear A40
    by_cases c5:0≤x5_1
    ·rw [if_pos c5] at H
     have c5b0:decide (0≤x5_1)=true:=decide_eq_true c5
     clear c5
     obtain ⟨y431,hy431⟩:∃ y_:List (S69),y_=(x0_1.set (x5_1:Int).toNat (⟨t430,(rd_T69 x0_1 x5_1).f1,(rd_T69 x0_1 x5_1).f2⟩:S69)):=⟨_,rfl⟩
     replace H:((some (y431.set (x5_1:Int).toNat (⟨(rd_T69 y431 x5_1).f0,wrap64 (x1_1+1),(rd_T69 y431 x5_1).f2⟩:S69):List (S69))).bind fun y432=>(laws_markBranchS.l0 k1 (y432.set (x5_1:Int).toNat (⟨(rd_T69 y432 x5_1).f0,(rd_T69 y432 x5_1).f1,((Int.tmod (wrap64 ((wrap64 (x1_1+1))+1)) 3) == 0)⟩:S69)) (wrap64 ((wrap64 ((wrap64 (x1_1+1))+1))+1)) (wrap64 (x5_1+1))))=some (r1,r2):=by first|(rw [hy431];with_reducible exact H)|(have H2_:=(Option.bind_some _ _).symm.trans H;rw [hy431];with_reducible exact H2_)|(have H2_:=(Option.bind_some _ _).symm.trans H;with_reducible exact H2_)|with_reducible exact H|(rw [hy431];exact H)|exact H
     have Ny431:=Zz.mk hy431
     clear hy431
     obtain ⟨y432,hy432⟩:∃ y_:List (S69),y_=(y431.set (x5_1:Int).toNat (⟨(rd_T69 y431 x5_1).f0,wrap64 (x1_1+1),(rd_T69 y431 x5_1).f2⟩:S69)):=⟨_,rfl⟩
     replace H:(laws_markBranchS.l0 k1 (y432.set (x5_1:Int).toNat (⟨(rd_T69 y432 x5_1).f0,(rd_T69 y432 x5_1).f1,((Int.tmod (wrap64 ((wrap64 (x1_1+1))+1)) 3) == 0)⟩:S69)) (wrap64 ((wrap64 ((wrap64 (x1_1+1))+1))+1)) (wrap64 (x5_1+1)))=some (r1,r2):=by first|(rw [hy432];with_reducible exact H)|(have H2_:=(Option.bind_some _ _).symm.trans H;rw [hy432];with_reducible exact H2_)|(have H2_:=(Option.bind_some _ _).symm.trans H;with_reducible exact H2_)|with_reducible exact H|(rw [hy432];exact H)|exact H
     have Ny432:=Zz.mk hy432
     clear hy432
     obtain ⟨y433,hy433⟩:∃ y_:List (S69),y_=(y432.set (x5_1:Int).toNat (⟨(rd_T69 y432 x5_1).f0,(rd_T69 y432 x5_1).f1,((Int.tmod (wrap64 ((wrap64 (x1_1+1))+1)) 3) == 0)⟩:S69)):=⟨_,rfl⟩
     replace H:(laws_markBranchS.l0 k1 y433 (wrap64 ((wrap64 ((wrap64 (x1_1+1))+1))+1)) (wrap64 (x5_1+1)))=some (r1,r2):=by first|(rw [hy433];with_reducible exact H)|(have H2_:=(Option.bind_some _ _).symm.trans H;rw [hy433];with_reducible exact H2_)|(have H2_:=(Option.bind_some _ _).symm.trans H;with_reducible exact H2_)|with_reducible exact H|(rw [hy433];exact H)|exact H
     have Ny433:=Zz.mk hy433
     clear hy433
     have H':=Zz.mk H
     clear H
     obtain ⟨Ao9,co9,eo9⟩:=Kd.R_slice HO_0.out
     subst eo9
     go_wp2_with (first|((with_reducible refine gate_callee (f:=55) rfl ?_);refine goesL_ (some 15) rfl rfl Try.func55 (by kernel_rfl) rfl #[.int .i64 x1_1] rfl (by (try simp only [List.map_toArray,List.map_cons,List.map_nil]);first|done|rfl|(simp only [List.length_drop,List.length_take];rfl)) ?_;(with_reducible refine (laws_markText.calls k1 x1_1 t430 _ A4.out).mono ?_);rintro e w10 ⟨rfl,hb⟩;refine ⟨_,rfl,?_⟩;have n0_:=Zz.mk (Kd.R_below (by (with_reducible repeat first|apply Kd.R_alloc|apply Kd.R_drewN|apply Kd.R_drew);exact HO_0.out) hb);have n1_:=Zz.mk (Kept.below (S:=(fun k_=>P0_ k_)) (by repeat (first|(with_reducible first|exact HK.out|apply Kept.alloc|apply Kept.drewN|apply Kept.drew)|exact HK.out)) hb);have n2_:=Zz.mk (qP (by repeat (first|(with_reducible first|exact HB.out|apply qA|apply qN|apply q1_)|exact HB.out)) hb);clear HO_0;clear HK;clear HB;have HO_0:=n0_;have HK:=n1_;have HB:=n2_;clear n0_ n1_ n2_;(try clear hb);(try clear hb2);(try clear hk);(try clear hi);have p6:0≤(x5_1:Int):=of_decide_eq_true (by first|(with_reducible assumption)|assumption);have q6:(x5_1:Int)<((x0_1.length:Int):Int):=of_decide_eq_true (by first|(with_reducible assumption)|assumption);obtain ⟨go6,co6,eo6,gb6,gl6,cl6,HG6⟩:=Kd.R_form HO_0.out (by omega);(first|cases eo6|(injection eo6 with ea_ en_ ec_;(first|subst ea_|(injection ea_ with ea_;subst ea_));subst ec_;clear en_));have GB6:=Zz.mk gb6;have GG6:=Zz.mk HG6;clear gb6 gl6 HG6;have HMgo6:=Zz.mk (show (P0_ go6∨w.heap.size≤go6) from (HO_0.out.1 _ rfl));obtain ⟨ce6,hcl6,hM6,hcc6,hfr6⟩:=Kd.R_elem HO_0.out z69 (x5_1:Int) p6 q6;obtain rfl:=k69_openM hM6;have hx6_0:w10.cell? ⟨go6,(x5_1:Int).toNat * 3,none⟩=some (.string ((rd_T69 x0_1 x5_1).f0)):=hcc6 0 _ rfl;have hx6_1:w10.cell? ⟨go6,(x5_1:Int).toNat * 3+1,none⟩=some (.int .i64 ((rd_T69 x0_1 x5_1).f1)):=hcc6 1 _ rfl;have hx6_2:w10.cell? ⟨go6,(x5_1:Int).toNat * 3+2,none⟩=some (.bool ((rd_T69 x0_1 x5_1).f2)):=hcc6 2 _ rfl;have hf6_0:w10.frozen? ⟨go6,(x5_1:Int).toNat * 3,none⟩=false:=hfr6 0;have hf6_1:w10.frozen? ⟨go6,(x5_1:Int).toNat * 3+1,none⟩=false:=hfr6 1;have hf6_2:w10.frozen? ⟨go6,(x5_1:Int).toNat * 3+2,none⟩=false:=hfr6 2;clear hcl6 hcc6 hfr6 hM6;replace p6:=eq_true p6;replace q6:=eq_true q6;have HX11:=Zz.mk (show Kd.R k69 69 w10 w0.heap.size (fun k_=>(P0_ k_∨w.heap.size≤k_)) (.slice (some ⟨go6,0,none⟩) x0_1.length co9) x0_1 from (by (with_reducible repeat first|apply Kd.R_alloc|apply Kd.R_drewN|apply Kd.R_drew);exact HO_0.out));obtain ⟨ce11,hcl11,hM11,hcc11,hfr11⟩:=Kd.R_elem HX11.out z69 (x5_1:Int) (of_decide_eq_true (by first|(with_reducible assumption)|assumption)) (by have h_:(x5_1:Int)<((x0_1.length:Int):Int):=of_decide_eq_true (by first|(with_reducible assumption)|assumption);first|exact h_|(have e_:=(Kd.R_reads' HO_0.out).1;omega)|simpa using h_);obtain rfl:=k69_openM hM11;have HP11:=Kd.R_seg HX11.out (x5_1:Int) (of_decide_eq_true (by first|(with_reducible assumption)|assumption)) (by have h_:(x5_1:Int)<((x0_1.length:Int):Int):=of_decide_eq_true (by first|(with_reducible assumption)|assumption);first|exact h_|(have e_:=(Kd.R_reads' HO_0.out).1;omega)|simpa using h_) (seg:=[.string t430]) (j:=0) hcl11 hcc11 (show 1≤3 from by decide) (x':=(⟨t430,(rd_T69 x0_1 x5_1).f1,(rd_T69 x0_1 x5_1).f2⟩:S69)) (k69_mkM _ _ _ (⟨t430,(rd_T69 x0_1 x5_1).f1,(rd_T69 x0_1 x5_1).f2⟩:S69) ) (fun _ hk=>hk);have hx11_0:=hcc11 0 _ rfl;(try simp only [show (k69).sz=3 from rfl,Nat.mul_one,Nat.add_zero] at hx11_0);have hf11_0:=hfr11 0;(try simp only [show (k69).sz=3 from rfl,Nat.mul_one,Nat.add_zero] at hf11_0);clear hcl11 hcc11 hfr11 hM11)|((with_reducible refine gate_store (t:=9) (p:=17) rfl ?_);refine store_event (t:=9) (p:=17) (v:=?vo_w12) (w1:=(w10.setCell ⟨go6,(x5_1:Int).toNat * 3,none⟩ (.string t430))) ?hg ?ho ?hn ?hr ?_;(case ho=>rfl);(case hg=>rfl);(case hn=>rfl);(case hr=>first|(go_simp;done)|(go_simp;rfl));intro w12 hw;have hg:w10.grownBy w12 (some go6):=(by rw [hw];exact HP11.2);have hp_:Kd.R k69 69 w12 w0.heap.size (fun k_=>(P0_ k_∨w.heap.size≤k_)) (.slice (some ⟨go6,0,none⟩) x0_1.length co9) y431:=(by rw [hw,Ny431.out];exact HP11.1);clear HP11;have n0_:=Zz.mk (hp_);have n1_:=Zz.mk ((by rw [hw];exact qS (HB.out) GB6.out:Below w0.heap.size w0 w12));have n2_:=Zz.mk (Kept.of_grown (S:=(fun k_=>P0_ k_)) hg (by repeat (first|(with_reducible first|exact HK.out|apply Kept.alloc|apply Kept.drewN|apply Kept.drew)|exact HK.out)) (fun k_ e_=>(HO_0.out.1 k_ e_)));clear HO_0;clear HB;clear HK;have HO_0:=n0_;have HB:=n1_;have HK:=n2_;clear n0_ n1_ n2_;clear hg hw hp_;have p7:0≤(x5_1:Int):=of_decide_eq_true (by first|(with_reducible assumption)|assumption);have q7:(x5_1:Int)<((x0_1.length:Int):Int):=of_decide_eq_true (by first|(with_reducible assumption)|assumption);obtain ⟨ce7,hcl7,hM7,hcc7,hfr7⟩:=Kd.R_elem HO_0.out z69 (x5_1:Int) p7 q7;obtain rfl:=k69_openM hM7;have hx7_0:w12.cell? ⟨go6,(x5_1:Int).toNat * 3,none⟩=some (.string ((rd_T69 y431 x5_1).f0)):=hcc7 0 _ rfl;have hx7_1:w12.cell? ⟨go6,(x5_1:Int).toNat * 3+1,none⟩=some (.int .i64 ((rd_T69 y431 x5_1).f1)):=hcc7 1 _ rfl;have hx7_2:w12.cell? ⟨go6,(x5_1:Int).toNat * 3+2,none⟩=some (.bool ((rd_T69 y431 x5_1).f2)):=hcc7 2 _ rfl;have hf7_0:w12.frozen? ⟨go6,(x5_1:Int).toNat * 3,none⟩=false:=hfr7 0;have hf7_1:w12.frozen? ⟨go6,(x5_1:Int).toNat * 3+1,none⟩=false:=hfr7 1;have hf7_2:w12.frozen? ⟨go6,(x5_1:Int).toNat * 3+2,none⟩=false:=hfr7 2;clear hcl7 hcc7 hfr7 hM7;replace p7:=eq_true p7;replace q7:=eq_true q7;have HX13:=Zz.mk (show Kd.R k69 69 w12 w0.heap.size (fun k_=>(P0_ k_∨w.heap.size≤k_)) (.slice (some ⟨go6,0,none⟩) x0_1.length co9) y431 from (by (with_reducible repeat first|apply Kd.R_alloc|apply Kd.R_drewN|apply Kd.R_drew);exact HO_0.out));obtain ⟨ce13,hcl13,hM13,hcc13,hfr13⟩:=Kd.R_elem HX13.out z69 (x5_1:Int) (of_decide_eq_true (by first|(with_reducible assumption)|assumption)) (by have h_:(x5_1:Int)<((x0_1.length:Int):Int):=of_decide_eq_true (by first|(with_reducible assumption)|assumption);first|exact h_|(have e_:=(Kd.R_reads' HO_0.out).1;omega)|simpa using h_);obtain rfl:=k69_openM hM13;have HP13:=Kd.R_seg HX13.out (x5_1:Int) (of_decide_eq_true (by first|(with_reducible assumption)|assumption)) (by have h_:(x5_1:Int)<((x0_1.length:Int):Int):=of_decide_eq_true (by first|(with_reducible assumption)|assumption);first|exact h_|(have e_:=(Kd.R_reads' HO_0.out).1;omega)|simpa using h_) (seg:=[.int .i64 (wrap64 (x1_1+1))]) (j:=1) hcl13 hcc13 (show 2≤3 from by decide) (x':=(⟨(rd_T69 y431 x5_1).f0,wrap64 (x1_1+1),(rd_T69 y431 x5_1).f2⟩:S69)) (k69_mkM _ _ _ (⟨(rd_T69 y431 x5_1).f0,wrap64 (x1_1+1),(rd_T69 y431 x5_1).f2⟩:S69) ) (fun _ hk=>hk);have hx13_1:=hcc13 1 _ rfl;(try simp only [show (k69).sz=3 from rfl,Nat.mul_one,Nat.add_zero] at hx13_1);have hf13_1:=hfr13 1;(try simp only [show (k69).sz=3 from rfl,Nat.mul_one,Nat.add_zero] at hf13_1);clear hcl13 hcc13 hfr13 hM13)|((with_reducible refine gate_store (t:=3) (p:=24) rfl ?_);refine store_event (t:=3) (p:=24) (v:=?vo_w14) (w1:=(w12.setCell ⟨go6,(x5_1:Int).toNat * 3+1,none⟩ (.int .i64 (wrap64 (x1_1+1))))) ?hg ?ho ?hn ?hr ?_;(case ho=>rfl);(case hg=>rfl);(case hn=>rfl);(case hr=>first|(go_simp;done)|(go_simp;rfl));intro w14 hw;have hg:w12.grownBy w14 (some go6):=(by rw [hw];exact HP13.2);have hp_:Kd.R k69 69 w14 w0.heap.size (fun k_=>(P0_ k_∨w.heap.size≤k_)) (.slice (some ⟨go6,0,none⟩) x0_1.length co9) y432:=(by rw [hw,Ny432.out];exact HP13.1);clear HP13;have n0_:=Zz.mk (hp_);have n1_:=Zz.mk ((by rw [hw];exact qS (HB.out) GB6.out:Below w0.heap.size w0 w14));have n2_:=Zz.mk (Kept.of_grown (S:=(fun k_=>P0_ k_)) hg (by repeat (first|(with_reducible first|exact HK.out|apply Kept.alloc|apply Kept.drewN|apply Kept.drew)|exact HK.out)) (fun k_ e_=>(HO_0.out.1 k_ e_)));clear HO_0;clear HB;clear HK;have HO_0:=n0_;have HB:=n1_;have HK:=n2_;clear n0_ n1_ n2_;clear hg hw hp_;have p8:0≤(x5_1:Int):=of_decide_eq_true (by first|(with_reducible assumption)|assumption);have q8:(x5_1:Int)<((x0_1.length:Int):Int):=of_decide_eq_true (by first|(with_reducible assumption)|assumption);obtain ⟨ce8,hcl8,hM8,hcc8,hfr8⟩:=Kd.R_elem HO_0.out z69 (x5_1:Int) p8 q8;obtain rfl:=k69_openM hM8;have hx8_0:w14.cell? ⟨go6,(x5_1:Int).toNat * 3,none⟩=some (.string ((rd_T69 y432 x5_1).f0)):=hcc8 0 _ rfl;have hx8_1:w14.cell? ⟨go6,(x5_1:Int).toNat * 3+1,none⟩=some (.int .i64 ((rd_T69 y432 x5_1).f1)):=hcc8 1 _ rfl;have hx8_2:w14.cell? ⟨go6,(x5_1:Int).toNat * 3+2,none⟩=some (.bool ((rd_T69 y432 x5_1).f2)):=hcc8 2 _ rfl;have hf8_0:w14.frozen? ⟨go6,(x5_1:Int).toNat * 3,none⟩=false:=hfr8 0;have hf8_1:w14.frozen? ⟨go6,(x5_1:Int).toNat * 3+1,none⟩=false:=hfr8 1;have hf8_2:w14.frozen? ⟨go6,(x5_1:Int).toNat * 3+2,none⟩=false:=hfr8 2;clear hcl8 hcc8 hfr8 hM8;replace p8:=eq_true p8;replace q8:=eq_true q8;have HX15:=Zz.mk (show Kd.R k69 69 w14 w0.heap.size (fun k_=>(P0_ k_∨w.heap.size≤k_)) (.slice (some ⟨go6,0,none⟩) x0_1.length co9) y432 from (by (with_reducible repeat first|apply Kd.R_alloc|apply Kd.R_drewN|apply Kd.R_drew);exact HO_0.out));obtain ⟨ce15,hcl15,hM15,hcc15,hfr15⟩:=Kd.R_elem HX15.out z69 (x5_1:Int) (of_decide_eq_true (by first|(with_reducible assumption)|assumption)) (by have h_:(x5_1:Int)<((x0_1.length:Int):Int):=of_decide_eq_true (by first|(with_reducible assumption)|assumption);first|exact h_|(have e_:=(Kd.R_reads' HO_0.out).1;omega)|simpa using h_);obtain rfl:=k69_openM hM15;have HP15:=Kd.R_seg HX15.out (x5_1:Int) (of_decide_eq_true (by first|(with_reducible assumption)|assumption)) (by have h_:(x5_1:Int)<((x0_1.length:Int):Int):=of_decide_eq_true (by first|(with_reducible assumption)|assumption);first|exact h_|(have e_:=(Kd.R_reads' HO_0.out).1;omega)|simpa using h_) (seg:=[.bool ((Int.tmod (wrap64 ((wrap64 (x1_1+1))+1)) 3) == 0)]) (j:=2) hcl15 hcc15 (show 3≤3 from by decide) (x':=(⟨(rd_T69 y432 x5_1).f0,(rd_T69 y432 x5_1).f1,((Int.tmod (wrap64 ((wrap64 (x1_1+1))+1)) 3) == 0)⟩:S69)) (k69_mkM _ _ _ (⟨(rd_T69 y432 x5_1).f0,(rd_T69 y432 x5_1).f1,((Int.tmod (wrap64 ((wrap64 (x1_1+1))+1)) 3) == 0)⟩:S69) ) (fun _ hk=>hk);have hx15_2:=hcc15 2 _ rfl;(try simp only [show (k69).sz=3 from rfl,Nat.mul_one,Nat.add_zero] at hx15_2);have hf15_2:=hfr15 2;(try simp only [show (k69).sz=3 from rfl,Nat.mul_one,Nat.add_zero] at hf15_2);clear hcl15 hcc15 hfr15 hM15)|((with_reducible refine gate_store (t:=4) (p:=33) rfl ?_);refine store_event (t:=4) (p:=33) (v:=?vo_w16) (w1:=(w14.setCell ⟨go6,(x5_1:Int).toNat * 3+2,none⟩ (.bool ((Int.tmod (wrap64 ((wrap64 (x1_1+1))+1)) 3) == 0)))) ?hg ?ho ?hn ?hr ?_;(case ho=>rfl);(case hg=>rfl);(case hn=>rfl);(case hr=>first|(go_simp;done)|(go_simp;rfl));intro w16 hw;have hg:w14.grownBy w16 (some go6):=(by rw [hw];exact HP15.2);have hp_:Kd.R k69 69 w16 w0.heap.size (fun k_=>(P0_ k_∨w.heap.size≤k_)) (.slice (some ⟨go6,0,none⟩) x0_1.length co9) y433:=(by rw [hw,Ny433.out];exact HP15.1);clear HP15;have n0_:=Zz.mk (hp_);have n1_:=Zz.mk ((by rw [hw];exact qS (HB.out) GB6.out:Below w0.heap.size w0 w16));have n2_:=Zz.mk (Kept.of_grown (S:=(fun k_=>P0_ k_)) hg (by repeat (first|(with_reducible first|exact HK.out|apply Kept.alloc|apply Kept.drewN|apply Kept.drew)|exact HK.out)) (fun k_ e_=>(HO_0.out.1 k_ e_)));clear HO_0;clear HB;clear HK;have HO_0:=n0_;have HB:=n1_;have HK:=n2_;clear n0_ n1_ n2_;clear hg hw hp_))
     go_roundg k1
     case measure=>have:=HK1.out;omega
     case rel=>exact ⟨(y433),(wrap64 ((wrap64 ((wrap64 (x1_1+1))+1))+1)),(wrap64 (x5_1+1)),(by first|rfl|(simp;done)|(simp [*];done)),(by first|rfl|(simp;done)|(simp [*];done)),H',⟨by have:=HK1.out;omega⟩,⟨by (with_reducible repeat first|apply Kd.R_alloc|apply Kd.R_drewN|apply Kd.R_drew);exact HO_0.out⟩,⟨by repeat (first|(with_reducible first|exact HK.out|apply Kept.alloc|apply Kept.drewN|apply Kept.drew)|exact HK.out)⟩,⟨by repeat (first|(with_reducible first|exact HB.out|apply qA|apply qN|apply q1_)|exact HB.out)⟩⟩
    ·rw [if_neg c5] at H
     exact absurd H (by simp)
   ·rw [if_neg c3] at H
    have c3b0:decide (x5_1<(x0_1.length:Int))=false:=decide_eq_false c3
    clear c3
    simp only [Option.some.injEq,Prod.mk.injEq] at H
    obtain ⟨rfl,rfl⟩:=H
    obtain ⟨Ao17,co17,eo17⟩:=Kd.R_slice HO_0.out
    subst eo17
    go_wp2
    go_ret
    exact ⟨by first|rfl|(simp [errW_none,errW_some] <;> rfl)|(simp [*,errW_none,errW_some] <;> rfl),by (with_reducible repeat first|apply Kd.R_alloc|apply Kd.R_drewN|apply Kd.R_drew);exact HO_0.out,by repeat (first|(with_reducible first|exact HB.out|apply qA|apply qN|apply q1_)|exact HB.out),by repeat (first|(with_reducible first|exact HK.out|apply Kept.alloc|apply Kept.drewN|apply Kept.drew)|exact HK.out)⟩
def laws_markPressed.f (k:Nat) (l0_0:List (S69)) (a1:Int):Option (Int × (List (S69))):=(laws_markBranchS.f k l0_0 a1).bind fun bt435=>(some (bt435.1,bt435.2))
set_option maxHeartbeats 8000000 in
set_option maxRecDepth 100000 in
theorem laws_markPressed.calls (k:Nat) (P0_0_:Nat→Prop) (u9000_:Value) (l0_0:List (S69)) (a1:Int) (r1:Int) (r2:List (S69)) (w0 w:World) (hB:Below w0.heap.size w0 w) (ho0_0:Kd.R k69 69 w w0.heap.size P0_0_ u9000_ l0_0) (h:laws_markPressed.f k l0_0 a1=some (r1,r2)) :
  Calls Try.prog 15 #[.agg #[u9000_],.int .i64 a1] w fun e w'=>e=.returned (.int .i64 r1)∧Kd.R k69 69 w' w0.heap.size (fun k_=>(P0_0_ k_∨w.heap.size≤k_)) u9000_ r2∧Below w0.heap.size w0 w'∧Kept w w' (fun k_=>P0_0_ k_):=by
 have hu36:=Try.underlying36
 have HO0_0:=Zz.mk (show Kd.R k69 69 w w0.heap.size (fun k_=>(P0_0_ k_∨w.heap.size≤k_)) u9000_ l0_0 from Kd.R_mono ho0_0 (fun k_ hk=>(.inl hk)))
 have HK:=Zz.mk (Kept.refl w (fun k_=>P0_0_ k_))
 have HW0:=Zz.mk hB.size
 have HB:=Zz.mk hB
 clear hB
 have H:((laws_markBranchS.f k l0_0 a1).bind fun bt435=>(some (bt435.1,bt435.2)))=some (r1,r2):=h
 clear h
 replace H:=Option.bind_eq_some_iff.mp H
 obtain ⟨⟨t435,t436⟩,A30,H⟩:=H
 replace H:(some (t435,t436))=some (r1,r2):=H
 have A3:=Zz.mk A30
 clear A30
 simp only [Option.some.injEq,Prod.mk.injEq] at H
 obtain ⟨rfl,rfl⟩:=H
 obtain ⟨Ao4,co4,eo4⟩:=Kd.R_slice HO0_0.out
 subst eo4
 go_enter Try.func15,Try.ntmps15
 go_wp2_with (first|((with_reducible refine gate_dst (N:=2) rfl ?_);refine box_event ?hg (N:=2) ?hd (cs:=#[.slice Ao4 l0_0.length co4]) (t:=36) ?hr ?_;(case hd=>rfl);(case hg=>rfl);(case hr=>first|(go_simp;done)|(go_simp;rfl));intro gb434 hg w5 hbox hb;have n0_:=Zz.mk (Kd.R_below (by (with_reducible repeat first|apply Kd.R_alloc|apply Kd.R_drewN|apply Kd.R_drew);exact HO0_0.out) hb);have n1_:=Zz.mk (Kept.below (S:=(fun k_=>P0_0_ k_)) (by repeat (first|(with_reducible first|exact HK.out|apply Kept.alloc|apply Kept.drewN|apply Kept.drew)|exact HK.out)) hb);have n2_:=Zz.mk (qP (by repeat (first|(with_reducible first|exact HB.out|apply qA|apply qN|apply q1_)|exact HB.out)) hb);have n3_:=Zz.mk (hbox);have n4_:=Zz.mk ((by rw [hg];exact (by first|exact HK.out.1|exact (show Kept w _ (fun k_=>P0_0_ k_) from by repeat (first|(with_reducible first|exact HK.out|apply Kept.alloc|apply Kept.drewN|apply Kept.drew)|exact HK.out)).1):w.heap.size≤gb434));have n5_:=Zz.mk ((by rw [hg];exact (qZ (by repeat (first|(with_reducible first|exact HB.out|apply qA|apply qN|apply q1_)|exact HB.out))):w0.heap.size≤gb434));clear HO0_0;clear HK;clear HB;have HO0_0:=n0_;have HK:=n1_;have HB:=n2_;have BK434:=n3_;have GW434:=n4_;have GE434:=n5_;clear n0_ n1_ n2_ n3_ n4_ n5_;clear hb hbox hg;have hcz6_0:w5.cell? ⟨gb434,0,none⟩=some (.slice Ao4 l0_0.length co4):=(bC BK434.out 0).trans rfl;have hfz6_0:=bF BK434.out 0)|((with_reducible refine gate_callee (f:=30) rfl ?_);refine goesL_ (some 8) rfl rfl Try.func30 (by kernel_rfl) rfl #[.slice Ao4 l0_0.length co4,.int .i64 a1] rfl (by (try simp only [List.map_toArray,List.map_cons,List.map_nil]);first|done|rfl|(simp only [List.length_drop,List.length_take];rfl)) ?_;(with_reducible refine (laws_markBranchS.calls k (fun k_=>some k_=(.slice Ao4 l0_0.length co4:Value).ownBlock) (.slice Ao4 l0_0.length co4) l0_0 a1 t435 t436 w0 _ ?side1 ?side2 A3.out).mono ?_);(case side1=>repeat (first|(with_reducible first|exact HB.out|apply qA|apply qN|apply q1_|refine qS ?_ GE434.out)|exact HB.out));(case side2=>exact Kd.R_tight rfl HO0_0.out);rintro e w7 ⟨rfl,hy0,hb,hkp⟩;refine ⟨_,rfl,?_⟩;have n0_:=Zz.mk (Kd.R_reok rfl hy0 (fun k_ e_=>HO0_0.out.1 k_ e_));have n1_:=Zz.mk (blk_kept (by (with_reducible repeat first|apply bN|apply bD|apply bA);exact BK434.out) hkp (fun hs_=>(fun e_=>(Kd.R_ne HO0_0.out BK434.out (by decide)) e_) hs_));have n2_:=Zz.mk (Kept.then_ (S:=(fun k_=>P0_0_ k_)) (by repeat (first|(with_reducible first|exact HK.out|apply Kept.alloc|apply Kept.drewN|apply Kept.drew|refine Kept.setCell ?_ (.inr GW434.out) _)|exact HK.out)) hkp (fun k_ hs_=>(fun e_=>(HO0_0.out.1 k_ e_.symm)) hs_));have n3_:=Zz.mk (hb);clear HO0_0;clear BK434;clear HK;clear HB;have HO0_0:=n0_;have BK434:=n1_;have HK:=n2_;have HB:=n3_;clear n0_ n1_ n2_ n3_;(try clear hb);(try clear hkp);(try clear hy0)))
 go_ret
 exact ⟨by first|rfl|(simp [errW_none,errW_some] <;> rfl)|(simp [*,errW_none,errW_some] <;> rfl),by (with_reducible repeat first|apply Kd.R_alloc|apply Kd.R_drewN|apply Kd.R_drew);exact HO0_0.out,by repeat (first|(with_reducible first|exact HB.out|apply qA|apply qN|apply q1_|refine qS ?_ GE434.out)|exact HB.out),by repeat (first|(with_reducible first|exact HK.out|apply Kept.alloc|apply Kept.drewN|apply Kept.drew|refine Kept.setCell ?_ (.inr GW434.out) _)|exact HK.out)⟩
end Go.Proofs.Ytghkbgmbbcaecaa.Q
namespace Go.Proofs.Ytghkbgmbbcaecaa.Q
open Go.RowKit Go.Proofs.YtghkbgmbbcaecaaW.PrintWords Go.Proofs.YtghkbgmbbcaecaaW.PrintLast Go.Proofs.YtghkbgmbbcaecaaW.PrintMore
attribute [local go_sem] run_field_23 run_field_24 run_field_31 run_field_32 run_field_35 run_field_36 isSome_setCell max2_int min2_int max_two min_two max_three min_three max_four min_four   -- for this text's walks alone
set_option linter.unusedVariables false
set_option linter.unusedSimpArgs false
def laws_heldBranchS.l0:Nat→List (S69)→Int→Int→Option (Int)
  | 0,_,_,_=>none
  | k+1,x0,x1,x5=>if x5<(x0.length:Int) then (if 0≤x5 then ((laws_markText.f k x1).bind fun t438=>(if ((rd_T69 x0 x5).f0).toList=t438.toList then (if ((rd_T69 x0 x5).f1)=(wrap64 (x1+1)) then (if (((rd_T69 x0 x5).f2) != ((Int.tmod (wrap64 ((wrap64 (x1+1))+1)) 3) == 0))=true then (some (-1)) else (laws_heldBranchS.l0 k x0 (wrap64 ((wrap64 ((wrap64 (x1+1))+1))+1)) (wrap64 (x5+1)))) else (some (-1))) else (some (-1)))) else (none)) else (some x1)
def laws_heldBranchS.f (k:Nat) (l0:List (S69)) (a1:Int):Option (Int):=laws_heldBranchS.l0 k l0 a1 0
def laws_heldBranchS.T4:Bool × List (List Nat × List Nat):=(true,[([],[]),([],[]),([0,1],[0,1]),([2],[2]),([3],[3]),([],[]),([5],[5]),([4,6],[4,6])])
def laws_heldBranchS.B4:List Nat:=[0,0,3,7,15,0,32,127]
theorem laws_heldBranchS.tab4:rtab .any (opsOf Try.f31 4)=laws_heldBranchS.T4:=by kernel_rfl
theorem laws_heldBranchS.bits4:waitsOk laws_heldBranchS.T4.2 laws_heldBranchS.B4=true:=by kernel_rfl
set_option maxHeartbeats 8000000 in
set_option maxRecDepth 100000 in
theorem laws_heldBranchS.calls (k:Nat) (A0:Option Addr) (c0:Nat) (l0:List (S69)) (a1:Int) (r:Int) (w:World) (hr0:Kd.C k69 w A0 l0.length l0) (hc0:l0.length≤c0) (h:laws_heldBranchS.f k l0 a1=some r) :
  Calls Try.prog 31 #[.slice A0 l0.length c0,.int .i64 a1] w fun e w'=>e=.returned (.int .i64 r)∧Below w.heap.size w w':=by
 have HR0:=Zz.mk hr0
 have HC0:=Zz.mk hc0
 clear hr0 hc0
 have HB:=Zz.mk (Below.refl w.heap.size w)
 have H:(laws_heldBranchS.l0 k l0 a1 0)=some r:=h
 clear h
 have H':=Zz.mk H
 clear H
 go_enter Try.func31,Try.ntmps31
 go_wp2
 go_loopg [1,5] k (fun kq v1 v5 w'=>∃ (x1_1:Int) (x5_1:Int),v1=.int .i64 x1_1∧v5=.int .i64 x5_1∧Zz (laws_heldBranchS.l0 kq l0 x1_1 x5_1=some r)∧Zz (kq≤k)∧Zz (Below w.heap.size w w'))
 case atStart=>exact ⟨(a1),(0),(by first|rfl|(simp;done)|(simp [*];done)),(by first|rfl|(simp;done)|(simp [*];done)),H',⟨Nat.le_refl _⟩,⟨by repeat (first|(with_reducible first|exact HB.out|apply qA|apply qN|apply q1_)|exact HB.out)⟩⟩
 case round =>
  clear H'
  try clear p2
  obtain ⟨x1_1,x5_1,rfl,rfl,HA,HK1,HB⟩:=hrel
  cases gk with
  | zero=>exact absurd HA.out (by simp [laws_heldBranchS.l0])
  | succ k1 =>
   have H:=HA.out
   clear HA
   simp only [laws_heldBranchS.l0] at H
   by_cases c3:x5_1<(l0.length:Int)
   ·rw [if_pos c3] at H
    have c3b0:decide (x5_1<(l0.length:Int))=true:=decide_eq_true c3
    clear c3
    by_cases c4:0≤x5_1
    ·rw [if_pos c4] at H
     have c4b0:decide (0≤x5_1)=true:=decide_eq_true c4
     clear c4
     replace H:=Option.bind_eq_some_iff.mp H
     obtain ⟨t438,A50,H⟩:=H
     replace H:(if ((rd_T69 l0 x5_1).f0).toList=t438.toList then (if ((rd_T69 l0 x5_1).f1)=(wrap64 (x1_1+1)) then (if (((rd_T69 l0 x5_1).f2) != ((Int.tmod (wrap64 ((wrap64 (x1_1+1))+1)) 3) == 0))=true then (some (-1)) else (laws_heldBranchS.l0 k1 l0 (wrap64 ((wrap64 ((wrap64 (x1_1+1))+1))+1)) (wrap64 (x5_1+1)))) else (some (-1))) else (some (-1)))=some r:=H
     have A5:=Zz.mk A50
     clear A50
     by_cases c6:((rd_T69 l0 x5_1).f0).toList=t438.toList
     ·rw [if_pos c6] at H
      have c6b0:(((rd_T69 l0 x5_1).f0).toList == t438.toList)=true:=beq_iff_eq.mpr c6
      have c6b1:(((rd_T69 l0 x5_1).f0).toList != t438.toList)=false:=bne_eq_false_iff_eq.mpr c6
      clear c6
      by_cases c7:((rd_T69 l0 x5_1).f1)=(wrap64 (x1_1+1))
      ·rw [if_pos c7] at H
       have c7b0:(((rd_T69 l0 x5_1).f1) == (wrap64 (x1_1+1)))=true:=beq_iff_eq.mpr c7
       have c7b1:(((rd_T69 l0 x5_1).f1) != (wrap64 (x1_1+1)))=false:=bne_eq_false_iff_eq.mpr c7
       clear c7
       by_cases c8:(((rd_T69 l0 x5_1).f2) != ((Int.tmod (wrap64 ((wrap64 (x1_1+1))+1)) 3) == 0))=true
       ·rw [if_pos c8] at H
        have c8b0:(((rd_T69 l0 x5_1).f2) != ((Int.tmod (wrap64 ((wrap64 (x1_1+1))+1)) 3) == 0))=true:=c8
        (try (have c8b1:decide (((rd_T69 l0 x5_1).f2)=((Int.tmod (wrap64 ((wrap64 (x1_1+1))+1)) 3) == 0))=false:=by simpa using c8))
        (try (have c8b2:(((rd_T69 l0 x5_1).f2) == ((Int.tmod (wrap64 ((wrap64 (x1_1+1))+1)) 3) == 0))=false:=by simpa using c8))
        (try (have c8b3:¬ (((rd_T69 l0 x5_1).f2)=((Int.tmod (wrap64 ((wrap64 (x1_1+1))+1)) 3) == 0)):=by simpa using c8))
        clear c8
        obtain rfl:=Option.some.inj H
        try go_wp2
        have n0_:=Zz.mk (q1_ HB.out)
        revert n0_
        clear HB
        intro HB
        have p437:0≤(x5_1:Int):=of_decide_eq_true (by first|(with_reducible assumption)|assumption)
        have q437:x5_1<(l0.length:Int):=of_decide_eq_true (by first|(with_reducible assumption)|assumption)
        obtain ⟨ad437,e437,hx437_0,hx437_1,hx437_2⟩:=at_T69 HR0.out x5_1 p437 q437
        have hw437_2:=hx437_2
        have hw437_1:=hx437_1
        have hw437_0:=hx437_0
        cases e437
        replace hx437_0:=(HB.out.cell (World.block_lt_of_cell? w _ hx437_0)).trans hx437_0
        replace hx437_1:=(HB.out.cell (World.block_lt_of_cell? w _ hx437_1)).trans hx437_1
        replace hx437_2:=(HB.out.cell (World.block_lt_of_cell? w _ hx437_2)).trans hx437_2
        replace p437:=eq_true p437
        replace q437:=eq_true q437
        refine start_ (n:=8) (S:=fun w'=>w'.cell? (ad437.add ((x5_1).toNat * 3))=some (.string ((rd_T69 l0 x5_1).f0))∧w'.cell? ⟨(ad437.add ((x5_1).toNat * 3)).block,(ad437.add ((x5_1).toNat * 3)).off+1,none⟩=some (.int .i64 ((rd_T69 l0 x5_1).f1))∧w'.cell? ⟨(ad437.add ((x5_1).toNat * 3)).block,(ad437.add ((x5_1).toNat * 3)).off+2,none⟩=some (.bool ((rd_T69 l0 x5_1).f2))) (ds:=[]) #[false,false,false,false,false,false,false,false] (by kernel_rfl) rfl rfl ⟨((HB.out.cell (World.block_lt_of_cell? w _ hw437_0)).trans hw437_0),((HB.out.cell (World.block_lt_of_cell? w _ hw437_1)).trans hw437_1),((HB.out.cell (World.block_lt_of_cell? w _ hw437_2)).trans hw437_2)⟩ (fun hHeld=>?_);refine with_tabW laws_heldBranchS.tab4 laws_heldBranchS.bits4 (fun HT_ HW_=>?_)
        generalize wr.drew=w9 at HB hx437_0 hx437_1 hx437_2 hHeld ⊢
        refine pure_ (i:=0) (N:=some 12) (v:=?_) (a':=?_) #[true,false,false,false,false,false,false,false] rfl rfl (any_of HT_.out (by kernel_rfl)) (fun _ _ _ h=>h) (Or.inl ⟨by rfl,?_⟩) ?_ ?_
        rotate_left
        ·intro w'
         go_simp
         with_reducible rfl
        rotate_left
        ·simp only [Act.put,List.setIfInBounds_toArray,List.set_cons_zero,List.set_cons_succ,i64_w,i32_w]
         rfl
        refine pure_ (i:=1) (N:=some 13) (v:=?_) (a':=?_) #[true,true,false,false,false,false,false,false] rfl rfl (any_of HT_.out (by kernel_rfl)) (fun _ _ _ h=>h) (Or.inl ⟨by rfl,?_⟩) ?_ ?_
        rotate_left
        ·intro w'
         go_simp
         with_reducible rfl
        rotate_left
        ·simp only [Act.put,List.setIfInBounds_toArray,List.set_cons_zero,List.set_cons_succ,i64_w,i32_w]
         rfl
        refine pure_ (i:=2) (N:=some 14) (v:=?_) (a':=?_) #[true,true,true,false,false,false,false,false] rfl rfl (any_of HT_.out (by kernel_rfl)) (fun _ _ _ h=>h) (Or.inl ⟨by rfl,?_⟩) ?_ ?_
        rotate_left
        ·intro w'
         go_simp
         with_reducible rfl
        rotate_left
        ·simp only [Act.put,List.setIfInBounds_toArray,List.set_cons_zero,List.set_cons_succ,i64_w,i32_w]
         rfl
        refine pure_ (i:=3) (N:=some 15) (v:=?_) (a':=?_) #[true,true,true,true,false,false,false,false] rfl rfl (any_of HT_.out (by kernel_rfl)) (fun _ _ _ h=>h) (Or.inl ⟨by rfl,?_⟩) ?_ ?_
        rotate_left
        ·intro w'
         go_simp
         with_reducible rfl
        rotate_left
        ·simp only [Act.put,List.setIfInBounds_toArray,List.set_cons_zero,List.set_cons_succ,i64_w,i32_w]
         rfl
        refine pure_ (i:=5) (N:=some 17) (v:=?_) (a':=?_) #[true,true,true,true,false,true,false,false] rfl rfl (any_of HT_.out (by kernel_rfl)) (fun _ _ _ h=>h) (Or.inl ⟨by rfl,?_⟩) ?_ ?_
        rotate_left
        ·intro w'
         go_simp
         with_reducible rfl
        rotate_left
        ·simp only [Act.put,List.setIfInBounds_toArray,List.set_cons_zero,List.set_cons_succ,i64_w,i32_w]
         rfl
        refine take_ (i:=4) (N:=some 16) (v:=?_) (a':=?_) #[true,true,true,true,true,true,false,false] rfl rfl (take_ofW HT_.out HW_.out (by kernel_rfl)) (fun _ _ _ h=>h) (Or.inl ⟨by rfl,?_⟩) hHeld ?_ ?_
        rotate_left
        ·rintro w' ⟨s0,s1,s2⟩
         go_simp
         with_reducible rfl
        rotate_left
        ·simp only [Act.put,List.setIfInBounds_toArray,List.set_cons_zero,List.set_cons_succ,i64_w,i32_w]
         rfl
        refine one_ (i:=6) (N:=some 18) #[true,true,true,true,true,true,true,false] rfl rfl (one_of HT_.out (by kernel_rfl)) (by decide) (fun K hK=>?_)
        refine goes_ Try.func55 (by kernel_rfl) rfl #[.int .i64 x1_1] (by rfl) rfl rfl (by (try simp only [List.map_toArray,List.map_cons,List.map_nil]);first|done|rfl|(simp only [List.length_drop,List.length_take];rfl)) ?_
        with_reducible refine (laws_markText.calls k1 x1_1 t438 _ A5.out).mono ?_
        rintro e w10 ⟨rfl,hb⟩
        refine ⟨_,rfl,?_⟩
        have n0_:=Zz.mk (qP HB.out hb)
        revert n0_
        clear HB
        intro HB
        (try clear hb)
        (try clear hb2)
        (try clear hk)
        (try clear hi)
        refine hK.out _ _ ⟨((HB.out.cell (World.block_lt_of_cell? w _ hw437_0)).trans hw437_0),((HB.out.cell (World.block_lt_of_cell? w _ hw437_1)).trans hw437_1),((HB.out.cell (World.block_lt_of_cell? w _ hw437_2)).trans hw437_2)⟩ (fun hHeld=>?_)
        clear hK K
        refine norm_ (a':=?_) ?_ ?_
        rotate_left
        ·show Act.put _ (some 18) _=_
         simp only [Act.put,List.setIfInBounds_toArray,List.set_cons_zero,List.set_cons_succ,i64_w,i32_w]
         rfl
        refine pure_ (i:=7) (N:=some 19) (v:=?_) (a':=?_) #[true,true,true,true,true,true,true,true] rfl rfl (any_of HT_.out (by kernel_rfl)) (fun _ _ _ h=>h) (Or.inl ⟨by rfl,?_⟩) ?_ ?_
        rotate_left
        ·intro w'
         go_simp
         with_reducible rfl
        rotate_left
        ·simp only [Act.put,List.setIfInBounds_toArray,List.set_cons_zero,List.set_cons_succ,i64_w,i32_w]
         rfl
        refine done_ (done_of HT_.out (by kernel_rfl)) ?_
        have p439:0≤(x5_1:Int):=of_decide_eq_true (by first|(with_reducible assumption)|assumption)
        have q439:x5_1<(l0.length:Int):=of_decide_eq_true (by first|(with_reducible assumption)|assumption)
        obtain ⟨ad439,e439,hx439_0,hx439_1,hx439_2⟩:=at_T69 HR0.out x5_1 p439 q439
        obtain rfl:ad437=ad439:=(by injection e439)
        replace hx439_0:=(HB.out.cell (World.block_lt_of_cell? w _ hx439_0)).trans hx439_0
        replace hx439_1:=(HB.out.cell (World.block_lt_of_cell? w _ hx439_1)).trans hx439_1
        replace hx439_2:=(HB.out.cell (World.block_lt_of_cell? w _ hx439_2)).trans hx439_2
        replace p439:=eq_true p439
        replace q439:=eq_true q439
        have p440:0≤(x5_1:Int):=of_decide_eq_true (by first|(with_reducible assumption)|assumption)
        have q440:x5_1<(l0.length:Int):=of_decide_eq_true (by first|(with_reducible assumption)|assumption)
        obtain ⟨ad440,e440,hx440_0,hx440_1,hx440_2⟩:=at_T69 HR0.out x5_1 p440 q440
        obtain rfl:ad437=ad440:=(by injection e440)
        replace hx440_0:=(HB.out.cell (World.block_lt_of_cell? w _ hx440_0)).trans hx440_0
        replace hx440_1:=(HB.out.cell (World.block_lt_of_cell? w _ hx440_1)).trans hx440_1
        replace hx440_2:=(HB.out.cell (World.block_lt_of_cell? w _ hx440_2)).trans hx440_2
        replace p440:=eq_true p440
        replace q440:=eq_true q440
        try go_wp2
        go_ret
        exact ⟨by first|rfl|(simp [errW_none,errW_some] <;> rfl)|(simp [*,errW_none,errW_some] <;> rfl),by repeat (first|(with_reducible first|exact HB.out|apply qA|apply qN|apply q1_)|exact HB.out)⟩
       ·rw [if_neg c8] at H
        have c8b0:(((rd_T69 l0 x5_1).f2) != ((Int.tmod (wrap64 ((wrap64 (x1_1+1))+1)) 3) == 0))=false:=by simpa using c8
        (try (have c8b1:decide (((rd_T69 l0 x5_1).f2)=((Int.tmod (wrap64 ((wrap64 (x1_1+1))+1)) 3) == 0))=true:=by simpa using c8))
        (try (have c8b2:(((rd_T69 l0 x5_1).f2) == ((Int.tmod (wrap64 ((wrap64 (x1_1+1))+1)) 3) == 0))=true:=by simpa using c8))
        clear c8
        have H':=Zz.mk H
        clear H
        try go_wp2
        have n0_:=Zz.mk (q1_ HB.out)
        revert n0_
        clear HB
        intro HB
        have p437:0≤(x5_1:Int):=of_decide_eq_true (by first|(with_reducible assumption)|assumption)
        have q437:x5_1<(l0.length:Int):=of_decide_eq_true (by first|(with_reducible assumption)|assumption)
        obtain ⟨ad437,e437,hx437_0,hx437_1,hx437_2⟩:=at_T69 HR0.out x5_1 p437 q437
        have hw437_2:=hx437_2
        have hw437_1:=hx437_1
        have hw437_0:=hx437_0
        cases e437
        replace hx437_0:=(HB.out.cell (World.block_lt_of_cell? w _ hx437_0)).trans hx437_0
        replace hx437_1:=(HB.out.cell (World.block_lt_of_cell? w _ hx437_1)).trans hx437_1
        replace hx437_2:=(HB.out.cell (World.block_lt_of_cell? w _ hx437_2)).trans hx437_2
        replace p437:=eq_true p437
        replace q437:=eq_true q437
        refine start_ (n:=8) (S:=fun w'=>w'.cell? (ad437.add ((x5_1).toNat * 3))=some (.string ((rd_T69 l0 x5_1).f0))∧w'.cell? ⟨(ad437.add ((x5_1).toNat * 3)).block,(ad437.add ((x5_1).toNat * 3)).off+1,none⟩=some (.int .i64 ((rd_T69 l0 x5_1).f1))∧w'.cell? ⟨(ad437.add ((x5_1).toNat * 3)).block,(ad437.add ((x5_1).toNat * 3)).off+2,none⟩=some (.bool ((rd_T69 l0 x5_1).f2))) (ds:=[]) #[false,false,false,false,false,false,false,false] (by kernel_rfl) rfl rfl ⟨((HB.out.cell (World.block_lt_of_cell? w _ hw437_0)).trans hw437_0),((HB.out.cell (World.block_lt_of_cell? w _ hw437_1)).trans hw437_1),((HB.out.cell (World.block_lt_of_cell? w _ hw437_2)).trans hw437_2)⟩ (fun hHeld=>?_);refine with_tabW laws_heldBranchS.tab4 laws_heldBranchS.bits4 (fun HT_ HW_=>?_)
        generalize wr.drew=w11 at HB hx437_0 hx437_1 hx437_2 hHeld ⊢
        refine pure_ (i:=0) (N:=some 12) (v:=?_) (a':=?_) #[true,false,false,false,false,false,false,false] rfl rfl (any_of HT_.out (by kernel_rfl)) (fun _ _ _ h=>h) (Or.inl ⟨by rfl,?_⟩) ?_ ?_
        rotate_left
        ·intro w'
         go_simp
         with_reducible rfl
        rotate_left
        ·simp only [Act.put,List.setIfInBounds_toArray,List.set_cons_zero,List.set_cons_succ,i64_w,i32_w]
         rfl
        refine pure_ (i:=1) (N:=some 13) (v:=?_) (a':=?_) #[true,true,false,false,false,false,false,false] rfl rfl (any_of HT_.out (by kernel_rfl)) (fun _ _ _ h=>h) (Or.inl ⟨by rfl,?_⟩) ?_ ?_
        rotate_left
        ·intro w'
         go_simp
         with_reducible rfl
        rotate_left
        ·simp only [Act.put,List.setIfInBounds_toArray,List.set_cons_zero,List.set_cons_succ,i64_w,i32_w]
         rfl
        refine pure_ (i:=2) (N:=some 14) (v:=?_) (a':=?_) #[true,true,true,false,false,false,false,false] rfl rfl (any_of HT_.out (by kernel_rfl)) (fun _ _ _ h=>h) (Or.inl ⟨by rfl,?_⟩) ?_ ?_
        rotate_left
        ·intro w'
         go_simp
         with_reducible rfl
        rotate_left
        ·simp only [Act.put,List.setIfInBounds_toArray,List.set_cons_zero,List.set_cons_succ,i64_w,i32_w]
         rfl
        refine pure_ (i:=3) (N:=some 15) (v:=?_) (a':=?_) #[true,true,true,true,false,false,false,false] rfl rfl (any_of HT_.out (by kernel_rfl)) (fun _ _ _ h=>h) (Or.inl ⟨by rfl,?_⟩) ?_ ?_
        rotate_left
        ·intro w'
         go_simp
         with_reducible rfl
        rotate_left
        ·simp only [Act.put,List.setIfInBounds_toArray,List.set_cons_zero,List.set_cons_succ,i64_w,i32_w]
         rfl
        refine pure_ (i:=5) (N:=some 17) (v:=?_) (a':=?_) #[true,true,true,true,false,true,false,false] rfl rfl (any_of HT_.out (by kernel_rfl)) (fun _ _ _ h=>h) (Or.inl ⟨by rfl,?_⟩) ?_ ?_
        rotate_left
        ·intro w'
         go_simp
         with_reducible rfl
        rotate_left
        ·simp only [Act.put,List.setIfInBounds_toArray,List.set_cons_zero,List.set_cons_succ,i64_w,i32_w]
         rfl
        refine take_ (i:=4) (N:=some 16) (v:=?_) (a':=?_) #[true,true,true,true,true,true,false,false] rfl rfl (take_ofW HT_.out HW_.out (by kernel_rfl)) (fun _ _ _ h=>h) (Or.inl ⟨by rfl,?_⟩) hHeld ?_ ?_
        rotate_left
        ·rintro w' ⟨s0,s1,s2⟩
         go_simp
         with_reducible rfl
        rotate_left
        ·simp only [Act.put,List.setIfInBounds_toArray,List.set_cons_zero,List.set_cons_succ,i64_w,i32_w]
         rfl
        refine one_ (i:=6) (N:=some 18) #[true,true,true,true,true,true,true,false] rfl rfl (one_of HT_.out (by kernel_rfl)) (by decide) (fun K hK=>?_)
        refine goes_ Try.func55 (by kernel_rfl) rfl #[.int .i64 x1_1] (by rfl) rfl rfl (by (try simp only [List.map_toArray,List.map_cons,List.map_nil]);first|done|rfl|(simp only [List.length_drop,List.length_take];rfl)) ?_
        with_reducible refine (laws_markText.calls k1 x1_1 t438 _ A5.out).mono ?_
        rintro e w12 ⟨rfl,hb⟩
        refine ⟨_,rfl,?_⟩
        have n0_:=Zz.mk (qP HB.out hb)
        revert n0_
        clear HB
        intro HB
        (try clear hb)
        (try clear hb2)
        (try clear hk)
        (try clear hi)
        refine hK.out _ _ ⟨((HB.out.cell (World.block_lt_of_cell? w _ hw437_0)).trans hw437_0),((HB.out.cell (World.block_lt_of_cell? w _ hw437_1)).trans hw437_1),((HB.out.cell (World.block_lt_of_cell? w _ hw437_2)).trans hw437_2)⟩ (fun hHeld=>?_)
        clear hK K
        refine norm_ (a':=?_) ?_ ?_
        rotate_left
        ·show Act.put _ (some 18) _=_
         simp only [Act.put,List.setIfInBounds_toArray,List.set_cons_zero,List.set_cons_succ,i64_w,i32_w]
         rfl
        refine pure_ (i:=7) (N:=some 19) (v:=?_) (a':=?_) #[true,true,true,true,true,true,true,true] rfl rfl (any_of HT_.out (by kernel_rfl)) (fun _ _ _ h=>h) (Or.inl ⟨by rfl,?_⟩) ?_ ?_
        rotate_left
        ·intro w'
         go_simp
         with_reducible rfl
        rotate_left
        ·simp only [Act.put,List.setIfInBounds_toArray,List.set_cons_zero,List.set_cons_succ,i64_w,i32_w]
         rfl
        refine done_ (done_of HT_.out (by kernel_rfl)) ?_
        have p439:0≤(x5_1:Int):=of_decide_eq_true (by first|(with_reducible assumption)|assumption)
        have q439:x5_1<(l0.length:Int):=of_decide_eq_true (by first|(with_reducible assumption)|assumption)
        obtain ⟨ad439,e439,hx439_0,hx439_1,hx439_2⟩:=at_T69 HR0.out x5_1 p439 q439
        obtain rfl:ad437=ad439:=(by injection e439)
        replace hx439_0:=(HB.out.cell (World.block_lt_of_cell? w _ hx439_0)).trans hx439_0
        replace hx439_1:=(HB.out.cell (World.block_lt_of_cell? w _ hx439_1)).trans hx439_1
        replace hx439_2:=(HB.out.cell (World.block_lt_of_cell? w _ hx439_2)).trans hx439_2
        replace p439:=eq_true p439
        replace q439:=eq_true q439
        have p440:0≤(x5_1:Int):=of_decide_eq_true (by first|(with_reducible assumption)|assumption)
        have q440:x5_1<(l0.length:Int):=of_decide_eq_true (by first|(with_reducible assumption)|assumption)
        obtain ⟨ad440,e440,hx440_0,hx440_1,hx440_2⟩:=at_T69 HR0.out x5_1 p440 q440
        obtain rfl:ad437=ad440:=(by injection e440)
        replace hx440_0:=(HB.out.cell (World.block_lt_of_cell? w _ hx440_0)).trans hx440_0
        replace hx440_1:=(HB.out.cell (World.block_lt_of_cell? w _ hx440_1)).trans hx440_1
        replace hx440_2:=(HB.out.cell (World.block_lt_of_cell? w _ hx440_2)).trans hx440_2
        replace p440:=eq_true p440
        replace q440:=eq_true q440
        try go_wp2
        go_roundg k1
        case measure=>have:=HK1.out;omega
        case rel=>exact ⟨(wrap64 ((wrap64 ((wrap64 (x1_1+1))+1))+1)),(wrap64 (x5_1+1)),(by first|rfl|(simp;done)|(simp [*];done)),(by first|rfl|(simp;done)|(simp [*];done)),H',⟨by have:=HK1.out;omega⟩,⟨by repeat (first|(with_reducible first|exact HB.out|apply qA|apply qN|apply q1_)|exact HB.out)⟩⟩
      ·rw [if_neg c7] at H
       have c7b0:(((rd_T69 l0 x5_1).f1) == (wrap64 (x1_1+1)))=false:=beq_eq_false_iff_ne.mpr c7
       have c7b1:(((rd_T69 l0 x5_1).f1) != (wrap64 (x1_1+1)))=true:=bne_iff_ne.mpr c7
       obtain rfl:=Option.some.inj H
       try go_wp2
       have n0_:=Zz.mk (q1_ HB.out)
       revert n0_
       clear HB
       intro HB
       have p437:0≤(x5_1:Int):=of_decide_eq_true (by first|(with_reducible assumption)|assumption)
       have q437:x5_1<(l0.length:Int):=of_decide_eq_true (by first|(with_reducible assumption)|assumption)
       obtain ⟨ad437,e437,hx437_0,hx437_1,hx437_2⟩:=at_T69 HR0.out x5_1 p437 q437
       have hw437_2:=hx437_2
       have hw437_1:=hx437_1
       have hw437_0:=hx437_0
       cases e437
       replace hx437_0:=(HB.out.cell (World.block_lt_of_cell? w _ hx437_0)).trans hx437_0
       replace hx437_1:=(HB.out.cell (World.block_lt_of_cell? w _ hx437_1)).trans hx437_1
       replace hx437_2:=(HB.out.cell (World.block_lt_of_cell? w _ hx437_2)).trans hx437_2
       replace p437:=eq_true p437
       replace q437:=eq_true q437
       refine start_ (n:=8) (S:=fun w'=>w'.cell? (ad437.add ((x5_1).toNat * 3))=some (.string ((rd_T69 l0 x5_1).f0))∧w'.cell? ⟨(ad437.add ((x5_1).toNat * 3)).block,(ad437.add ((x5_1).toNat * 3)).off+1,none⟩=some (.int .i64 ((rd_T69 l0 x5_1).f1))∧w'.cell? ⟨(ad437.add ((x5_1).toNat * 3)).block,(ad437.add ((x5_1).toNat * 3)).off+2,none⟩=some (.bool ((rd_T69 l0 x5_1).f2))) (ds:=[]) #[false,false,false,false,false,false,false,false] (by kernel_rfl) rfl rfl ⟨((HB.out.cell (World.block_lt_of_cell? w _ hw437_0)).trans hw437_0),((HB.out.cell (World.block_lt_of_cell? w _ hw437_1)).trans hw437_1),((HB.out.cell (World.block_lt_of_cell? w _ hw437_2)).trans hw437_2)⟩ (fun hHeld=>?_);refine with_tabW laws_heldBranchS.tab4 laws_heldBranchS.bits4 (fun HT_ HW_=>?_)
       generalize wr.drew=w13 at HB hx437_0 hx437_1 hx437_2 hHeld ⊢
       refine pure_ (i:=0) (N:=some 12) (v:=?_) (a':=?_) #[true,false,false,false,false,false,false,false] rfl rfl (any_of HT_.out (by kernel_rfl)) (fun _ _ _ h=>h) (Or.inl ⟨by rfl,?_⟩) ?_ ?_
       rotate_left
       ·intro w'
        go_simp
        with_reducible rfl
       rotate_left
       ·simp only [Act.put,List.setIfInBounds_toArray,List.set_cons_zero,List.set_cons_succ,i64_w,i32_w]
        rfl
       refine pure_ (i:=1) (N:=some 13) (v:=?_) (a':=?_) #[true,true,false,false,false,false,false,false] rfl rfl (any_of HT_.out (by kernel_rfl)) (fun _ _ _ h=>h) (Or.inl ⟨by rfl,?_⟩) ?_ ?_
       rotate_left
       ·intro w'
        go_simp
        with_reducible rfl
       rotate_left
       ·simp only [Act.put,List.setIfInBounds_toArray,List.set_cons_zero,List.set_cons_succ,i64_w,i32_w]
        rfl
       refine pure_ (i:=2) (N:=some 14) (v:=?_) (a':=?_) #[true,true,true,false,false,false,false,false] rfl rfl (any_of HT_.out (by kernel_rfl)) (fun _ _ _ h=>h) (Or.inl ⟨by rfl,?_⟩) ?_ ?_
       rotate_left
       ·intro w'
        go_simp
        with_reducible rfl
       rotate_left
       ·simp only [Act.put,List.setIfInBounds_toArray,List.set_cons_zero,List.set_cons_succ,i64_w,i32_w]
        rfl
       refine pure_ (i:=3) (N:=some 15) (v:=?_) (a':=?_) #[true,true,true,true,false,false,false,false] rfl rfl (any_of HT_.out (by kernel_rfl)) (fun _ _ _ h=>h) (Or.inl ⟨by rfl,?_⟩) ?_ ?_
       rotate_left
       ·intro w'
        go_simp
        with_reducible rfl
       rotate_left
       ·simp only [Act.put,List.setIfInBounds_toArray,List.set_cons_zero,List.set_cons_succ,i64_w,i32_w]
        rfl
       refine pure_ (i:=5) (N:=some 17) (v:=?_) (a':=?_) #[true,true,true,true,false,true,false,false] rfl rfl (any_of HT_.out (by kernel_rfl)) (fun _ _ _ h=>h) (Or.inl ⟨by rfl,?_⟩) ?_ ?_
       rotate_left
       ·intro w'
        go_simp
        with_reducible rfl
       rotate_left
       ·simp only [Act.put,List.setIfInBounds_toArray,List.set_cons_zero,List.set_cons_succ,i64_w,i32_w]
        rfl
       refine take_ (i:=4) (N:=some 16) (v:=?_) (a':=?_) #[true,true,true,true,true,true,false,false] rfl rfl (take_ofW HT_.out HW_.out (by kernel_rfl)) (fun _ _ _ h=>h) (Or.inl ⟨by rfl,?_⟩) hHeld ?_ ?_
       rotate_left
       ·rintro w' ⟨s0,s1,s2⟩
        go_simp
        with_reducible rfl
       rotate_left
       ·simp only [Act.put,List.setIfInBounds_toArray,List.set_cons_zero,List.set_cons_succ,i64_w,i32_w]
        rfl
       refine one_ (i:=6) (N:=some 18) #[true,true,true,true,true,true,true,false] rfl rfl (one_of HT_.out (by kernel_rfl)) (by decide) (fun K hK=>?_)
       refine goes_ Try.func55 (by kernel_rfl) rfl #[.int .i64 x1_1] (by rfl) rfl rfl (by (try simp only [List.map_toArray,List.map_cons,List.map_nil]);first|done|rfl|(simp only [List.length_drop,List.length_take];rfl)) ?_
       with_reducible refine (laws_markText.calls k1 x1_1 t438 _ A5.out).mono ?_
       rintro e w14 ⟨rfl,hb⟩
       refine ⟨_,rfl,?_⟩
       have n0_:=Zz.mk (qP HB.out hb)
       revert n0_
       clear HB
       intro HB
       (try clear hb)
       (try clear hb2)
       (try clear hk)
       (try clear hi)
       refine hK.out _ _ ⟨((HB.out.cell (World.block_lt_of_cell? w _ hw437_0)).trans hw437_0),((HB.out.cell (World.block_lt_of_cell? w _ hw437_1)).trans hw437_1),((HB.out.cell (World.block_lt_of_cell? w _ hw437_2)).trans hw437_2)⟩ (fun hHeld=>?_)
       clear hK K
       refine norm_ (a':=?_) ?_ ?_
       rotate_left
       ·show Act.put _ (some 18) _=_
        simp only [Act.put,List.setIfInBounds_toArray,List.set_cons_zero,List.set_cons_succ,i64_w,i32_w]
        rfl
       refine pure_ (i:=7) (N:=some 19) (v:=?_) (a':=?_) #[true,true,true,true,true,true,true,true] rfl rfl (any_of HT_.out (by kernel_rfl)) (fun _ _ _ h=>h) (Or.inl ⟨by rfl,?_⟩) ?_ ?_
       rotate_left
       ·intro w'
        go_simp
        with_reducible rfl
       rotate_left
       ·simp only [Act.put,List.setIfInBounds_toArray,List.set_cons_zero,List.set_cons_succ,i64_w,i32_w]
        rfl
       refine done_ (done_of HT_.out (by kernel_rfl)) ?_
       have p439:0≤(x5_1:Int):=of_decide_eq_true (by first|(with_reducible assumption)|assumption)
       have q439:x5_1<(l0.length:Int):=of_decide_eq_true (by first|(with_reducible assumption)|assumption)
       obtain ⟨ad439,e439,hx439_0,hx439_1,hx439_2⟩:=at_T69 HR0.out x5_1 p439 q439
       obtain rfl:ad437=ad439:=(by injection e439)
       replace hx439_0:=(HB.out.cell (World.block_lt_of_cell? w _ hx439_0)).trans hx439_0
       replace hx439_1:=(HB.out.cell (World.block_lt_of_cell? w _ hx439_1)).trans hx439_1
       replace hx439_2:=(HB.out.cell (World.block_lt_of_cell? w _ hx439_2)).trans hx439_2
       replace p439:=eq_true p439
       replace q439:=eq_true q439
       try go_wp2
       go_ret
       exact ⟨by first|rfl|(simp [errW_none,errW_some] <;> rfl)|(simp [*,errW_none,errW_some] <;> rfl),by repeat (first|(with_reducible first|exact HB.out|apply qA|apply qN|apply q1_)|exact HB.out)⟩
     ·rw [if_neg c6] at H
      have c6b0:(((rd_T69 l0 x5_1).f0).toList == t438.toList)=false:=beq_eq_false_iff_ne.mpr c6
      have c6b1:(((rd_T69 l0 x5_1).f0).toList != t438.toList)=true:=bne_iff_ne.mpr c6
      obtain rfl:=Option.some.inj H
      try go_wp2
      have n0_:=Zz.mk (q1_ HB.out)
      revert n0_
      clear HB
      intro HB
      have p437:0≤(x5_1:Int):=of_decide_eq_true (by first|(with_reducible assumption)|assumption)
      have q437:x5_1<(l0.length:Int):=of_decide_eq_true (by first|(with_reducible assumption)|assumption)
      obtain ⟨ad437,e437,hx437_0,hx437_1,hx437_2⟩:=at_T69 HR0.out x5_1 p437 q437
      have hw437_2:=hx437_2
      have hw437_1:=hx437_1
      have hw437_0:=hx437_0
      cases e437
      replace hx437_0:=(HB.out.cell (World.block_lt_of_cell? w _ hx437_0)).trans hx437_0
      replace hx437_1:=(HB.out.cell (World.block_lt_of_cell? w _ hx437_1)).trans hx437_1
      replace hx437_2:=(HB.out.cell (World.block_lt_of_cell? w _ hx437_2)).trans hx437_2
      replace p437:=eq_true p437
      replace q437:=eq_true q437
      refine start_ (n:=8) (S:=fun w'=>w'.cell? (ad437.add ((x5_1).toNat * 3))=some (.string ((rd_T69 l0 x5_1).f0))∧w'.cell? ⟨(ad437.add ((x5_1).toNat * 3)).block,(ad437.add ((x5_1).toNat * 3)).off+1,none⟩=some (.int .i64 ((rd_T69 l0 x5_1).f1))∧w'.cell? ⟨(ad437.add ((x5_1).toNat * 3)).block,(ad437.add ((x5_1).toNat * 3)).off+2,none⟩=some (.bool ((rd_T69 l0 x5_1).f2))) (ds:=[]) #[false,false,false,false,false,false,false,false] (by kernel_rfl) rfl rfl ⟨((HB.out.cell (World.block_lt_of_cell? w _ hw437_0)).trans hw437_0),((HB.out.cell (World.block_lt_of_cell? w _ hw437_1)).trans hw437_1),((HB.out.cell (World.block_lt_of_cell? w _ hw437_2)).trans hw437_2)⟩ (fun hHeld=>?_);refine with_tabW laws_heldBranchS.tab4 laws_heldBranchS.bits4 (fun HT_ HW_=>?_)
      generalize wr.drew=w15 at HB hx437_0 hx437_1 hx437_2 hHeld ⊢
      refine pure_ (i:=0) (N:=some 12) (v:=?_) (a':=?_) #[true,false,false,false,false,false,false,false] rfl rfl (any_of HT_.out (by kernel_rfl)) (fun _ _ _ h=>h) (Or.inl ⟨by rfl,?_⟩) ?_ ?_
      rotate_left
      ·intro w'
       go_simp
       with_reducible rfl
      rotate_left
      ·simp only [Act.put,List.setIfInBounds_toArray,List.set_cons_zero,List.set_cons_succ,i64_w,i32_w]
       rfl
      refine pure_ (i:=1) (N:=some 13) (v:=?_) (a':=?_) #[true,true,false,false,false,false,false,false] rfl rfl (any_of HT_.out (by kernel_rfl)) (fun _ _ _ h=>h) (Or.inl ⟨by rfl,?_⟩) ?_ ?_
      rotate_left
      ·intro w'
       go_simp
       with_reducible rfl
      rotate_left
      ·simp only [Act.put,List.setIfInBounds_toArray,List.set_cons_zero,List.set_cons_succ,i64_w,i32_w]
       rfl
      refine pure_ (i:=2) (N:=some 14) (v:=?_) (a':=?_) #[true,true,true,false,false,false,false,false] rfl rfl (any_of HT_.out (by kernel_rfl)) (fun _ _ _ h=>h) (Or.inl ⟨by rfl,?_⟩) ?_ ?_
      rotate_left
      ·intro w'
       go_simp
       with_reducible rfl
      rotate_left
      ·simp only [Act.put,List.setIfInBounds_toArray,List.set_cons_zero,List.set_cons_succ,i64_w,i32_w]
       rfl
      refine pure_ (i:=3) (N:=some 15) (v:=?_) (a':=?_) #[true,true,true,true,false,false,false,false] rfl rfl (any_of HT_.out (by kernel_rfl)) (fun _ _ _ h=>h) (Or.inl ⟨by rfl,?_⟩) ?_ ?_
      rotate_left
      ·intro w'
       go_simp
       with_reducible rfl
      rotate_left
      ·simp only [Act.put,List.setIfInBounds_toArray,List.set_cons_zero,List.set_cons_succ,i64_w,i32_w]
       rfl
      refine pure_ (i:=5) (N:=some 17) (v:=?_) (a':=?_) #[true,true,true,true,false,true,false,false] rfl rfl (any_of HT_.out (by kernel_rfl)) (fun _ _ _ h=>h) (Or.inl ⟨by rfl,?_⟩) ?_ ?_
      rotate_left
      ·intro w'
       go_simp
       with_reducible rfl
      rotate_left
      ·simp only [Act.put,List.setIfInBounds_toArray,List.set_cons_zero,List.set_cons_succ,i64_w,i32_w]
       rfl
      refine take_ (i:=4) (N:=some 16) (v:=?_) (a':=?_) #[true,true,true,true,true,true,false,false] rfl rfl (take_ofW HT_.out HW_.out (by kernel_rfl)) (fun _ _ _ h=>h) (Or.inl ⟨by rfl,?_⟩) hHeld ?_ ?_
      rotate_left
      ·rintro w' ⟨s0,s1,s2⟩
       go_simp
       with_reducible rfl
      rotate_left
      ·simp only [Act.put,List.setIfInBounds_toArray,List.set_cons_zero,List.set_cons_succ,i64_w,i32_w]
       rfl
      refine one_ (i:=6) (N:=some 18) #[true,true,true,true,true,true,true,false] rfl rfl (one_of HT_.out (by kernel_rfl)) (by decide) (fun K hK=>?_)
      refine goes_ Try.func55 (by kernel_rfl) rfl #[.int .i64 x1_1] (by rfl) rfl rfl (by (try simp only [List.map_toArray,List.map_cons,List.map_nil]);first|done|rfl|(simp only [List.length_drop,List.length_take];rfl)) ?_
      with_reducible refine (laws_markText.calls k1 x1_1 t438 _ A5.out).mono ?_
      rintro e w16 ⟨rfl,hb⟩
      refine ⟨_,rfl,?_⟩
      have n0_:=Zz.mk (qP HB.out hb)
      revert n0_
      clear HB
      intro HB
      (try clear hb)
      (try clear hb2)
      (try clear hk)
      (try clear hi)
      refine hK.out _ _ ⟨((HB.out.cell (World.block_lt_of_cell? w _ hw437_0)).trans hw437_0),((HB.out.cell (World.block_lt_of_cell? w _ hw437_1)).trans hw437_1),((HB.out.cell (World.block_lt_of_cell? w _ hw437_2)).trans hw437_2)⟩ (fun hHeld=>?_)
      clear hK K
      refine norm_ (a':=?_) ?_ ?_
      rotate_left
      ·show Act.put _ (some 18) _=_
       simp only [Act.put,List.setIfInBounds_toArray,List.set_cons_zero,List.set_cons_succ,i64_w,i32_w]
       rfl
      refine pure_ (i:=7) (N:=some 19) (v:=?_) (a':=?_) #[true,true,true,true,true,true,true,true] rfl rfl (any_of HT_.out (by kernel_rfl)) (fun _ _ _ h=>h) (Or.inl ⟨by rfl,?_⟩) ?_ ?_
      rotate_left
      ·intro w'
       go_simp
       with_reducible rfl
      rotate_left
      ·simp only [Act.put,List.setIfInBounds_toArray,List.set_cons_zero,List.set_cons_succ,i64_w,i32_w]
       rfl
      refine done_ (done_of HT_.out (by kernel_rfl)) ?_
      try go_wp2
      go_ret
      exact ⟨by first|rfl|(simp [errW_none,errW_some] <;> rfl)|(simp [*,errW_none,errW_some] <;> rfl),by repeat (first|(with_reducible first|exact HB.out|apply qA|apply qN|apply q1_)|exact HB.out)⟩
    ·rw [if_neg c4] at H
     exact absurd H (by simp)
   ·rw [if_neg c3] at H
    have c3b0:decide (x5_1<(l0.length:Int))=false:=decide_eq_false c3
    clear c3
    obtain rfl:=Option.some.inj H
    go_wp2
    go_ret
    exact ⟨by first|rfl|(simp [errW_none,errW_some] <;> rfl)|(simp [*,errW_none,errW_some] <;> rfl),by repeat (first|(with_reducible first|exact HB.out|apply qA|apply qN|apply q1_)|exact HB.out)⟩
def laws_heldPressed.f (k:Nat) (l0_0:List (S69)) (a1:Int):Option (Int):=(laws_heldBranchS.f k l0_0 a1).bind fun t442=>(if t442<0 then (some (-1)) else (some t442))
set_option maxHeartbeats 8000000 in
set_option maxRecDepth 100000 in
theorem laws_heldPressed.calls (k:Nat) (A0_0:Option Addr) (c0_0:Nat) (l0_0:List (S69)) (a1:Int) (r:Int) (w:World) (hr0_0:Kd.C k69 w A0_0 l0_0.length l0_0) (hc0_0:l0_0.length≤c0_0) (h:laws_heldPressed.f k l0_0 a1=some r) :
  Calls Try.prog 16 #[.agg #[.slice A0_0 l0_0.length c0_0],.int .i64 a1] w fun e w'=>e=.returned (.int .i64 r)∧Below w.heap.size w w':=by
 have hu36:=Try.underlying36
 have HR0_0:=Zz.mk hr0_0
 have HC0_0:=Zz.mk hc0_0
 clear hr0_0 hc0_0
 have HB:=Zz.mk (Below.refl w.heap.size w)
 have H:((laws_heldBranchS.f k l0_0 a1).bind fun t442=>(if t442<0 then (some (-1)) else (some t442)))=some r:=h
 clear h
 replace H:=Option.bind_eq_some_iff.mp H
 obtain ⟨t442,A30,H⟩:=H
 replace H:(if t442<0 then (some (-1)) else (some t442))=some r:=H
 have A3:=Zz.mk A30
 clear A30
 by_cases c4:t442<0
 ·rw [if_pos c4] at H
  have c4b0:decide (t442<0)=true:=decide_eq_true c4
  clear c4
  obtain rfl:=Option.some.inj H
  go_enter Try.func16,Try.ntmps16
  go_wp2_with (first|((with_reducible refine gate_dst (N:=2) rfl ?_);refine box_event ?hg (N:=2) ?hd (cs:=#[.slice A0_0 l0_0.length c0_0]) (t:=36) ?hr ?_;(case hd=>rfl);(case hg=>rfl);(case hr=>first|(go_simp;done)|(go_simp;rfl));intro gb441 hg w5 hbox hb;have n0_:=Zz.mk (qP (by repeat (first|(with_reducible first|exact HB.out|apply qA|apply qN|apply q1_)|exact HB.out)) hb);have n1_:=Zz.mk (hbox);have n2_:=Zz.mk ((by rw [hg];exact (qZ (by repeat (first|(with_reducible first|exact HB.out|apply qA|apply qN|apply q1_)|exact HB.out))):w.heap.size≤gb441));have n3_:=Zz.mk ((by rw [hg];exact (qZ (by repeat (first|(with_reducible first|exact HB.out|apply qA|apply qN|apply q1_)|exact HB.out))):w.heap.size≤gb441));clear HB;have HB:=n0_;have BK441:=n1_;have GW441:=n2_;have GE441:=n3_;clear n0_ n1_ n2_ n3_;clear hb hbox hg;have hcz6_0:w5.cell? ⟨gb441,0,none⟩=some (.slice A0_0 l0_0.length c0_0):=(bC BK441.out 0).trans rfl;have hfz6_0:=bF BK441.out 0)|((with_reducible refine gate_callee (f:=31) rfl ?_);refine goesL_ (some 8) rfl rfl Try.func31 (by kernel_rfl) rfl #[.slice A0_0 l0_0.length c0_0,.int .i64 a1] rfl (by (try simp only [List.map_toArray,List.map_cons,List.map_nil]);first|done|rfl|(simp only [List.length_drop,List.length_take];rfl)) ?_;(with_reducible refine (laws_heldBranchS.calls k _ _ l0_0 a1 t442 _ ?side1 ?side2 A3.out).mono ?_);(case side1=>repeat (first|exact (Kd.C_below HR0_0.out HB.out)|(with_reducible refine Kd.C_alloc ?_ _)|(with_reducible refine Kd.C_drewN ?_ _)|(with_reducible refine Kd.C_drew ?_)));(case side2=>exact HC0_0.out);rintro e w7 ⟨rfl,hb⟩;refine ⟨_,rfl,?_⟩;have n0_:=Zz.mk (bB (g:=gb441) (o:=.cells #[.slice A0_0 l0_0.length c0_0] 36 (0,0)) (by (with_reducible repeat first|apply bN|apply bD|apply bA);exact BK441.out) hb);have n1_:=Zz.mk (qP (by repeat (first|(with_reducible first|exact HB.out|apply qA|apply qN|apply q1_|refine qS ?_ GE441.out)|exact HB.out)) hb);clear BK441;clear HB;have BK441:=n0_;have HB:=n1_;clear n0_ n1_;(try clear hb);(try clear hb2);(try clear hk);(try clear hi)))
  go_ret
  exact ⟨by first|rfl|(simp [errW_none,errW_some] <;> rfl)|(simp [*,errW_none,errW_some] <;> rfl),by repeat (first|(with_reducible first|exact HB.out|apply qA|apply qN|apply q1_|refine qS ?_ GE441.out)|exact HB.out)⟩
 ·rw [if_neg c4] at H
  have c4b0:decide (t442<0)=false:=decide_eq_false c4
  clear c4
  obtain rfl:=Option.some.inj H
  go_enter Try.func16,Try.ntmps16
  go_wp2_with (first|((with_reducible refine gate_dst (N:=2) rfl ?_);refine box_event ?hg (N:=2) ?hd (cs:=#[.slice A0_0 l0_0.length c0_0]) (t:=36) ?hr ?_;(case hd=>rfl);(case hg=>rfl);(case hr=>first|(go_simp;done)|(go_simp;rfl));intro gb441 hg w8 hbox hb;have n0_:=Zz.mk (qP (by repeat (first|(with_reducible first|exact HB.out|apply qA|apply qN|apply q1_)|exact HB.out)) hb);have n1_:=Zz.mk (hbox);have n2_:=Zz.mk ((by rw [hg];exact (qZ (by repeat (first|(with_reducible first|exact HB.out|apply qA|apply qN|apply q1_)|exact HB.out))):w.heap.size≤gb441));have n3_:=Zz.mk ((by rw [hg];exact (qZ (by repeat (first|(with_reducible first|exact HB.out|apply qA|apply qN|apply q1_)|exact HB.out))):w.heap.size≤gb441));clear HB;have HB:=n0_;have BK441:=n1_;have GW441:=n2_;have GE441:=n3_;clear n0_ n1_ n2_ n3_;clear hb hbox hg;have hcz9_0:w8.cell? ⟨gb441,0,none⟩=some (.slice A0_0 l0_0.length c0_0):=(bC BK441.out 0).trans rfl;have hfz9_0:=bF BK441.out 0)|((with_reducible refine gate_callee (f:=31) rfl ?_);refine goesL_ (some 8) rfl rfl Try.func31 (by kernel_rfl) rfl #[.slice A0_0 l0_0.length c0_0,.int .i64 a1] rfl (by (try simp only [List.map_toArray,List.map_cons,List.map_nil]);first|done|rfl|(simp only [List.length_drop,List.length_take];rfl)) ?_;(with_reducible refine (laws_heldBranchS.calls k _ _ l0_0 a1 t442 _ ?side1 ?side2 A3.out).mono ?_);(case side1=>repeat (first|exact (Kd.C_below HR0_0.out HB.out)|(with_reducible refine Kd.C_alloc ?_ _)|(with_reducible refine Kd.C_drewN ?_ _)|(with_reducible refine Kd.C_drew ?_)));(case side2=>exact HC0_0.out);rintro e w10 ⟨rfl,hb⟩;refine ⟨_,rfl,?_⟩;have n0_:=Zz.mk (bB (g:=gb441) (o:=.cells #[.slice A0_0 l0_0.length c0_0] 36 (0,0)) (by (with_reducible repeat first|apply bN|apply bD|apply bA);exact BK441.out) hb);have n1_:=Zz.mk (qP (by repeat (first|(with_reducible first|exact HB.out|apply qA|apply qN|apply q1_|refine qS ?_ GE441.out)|exact HB.out)) hb);clear BK441;clear HB;have BK441:=n0_;have HB:=n1_;clear n0_ n1_;(try clear hb);(try clear hb2);(try clear hk);(try clear hi)))
  go_ret
  exact ⟨by first|rfl|(simp [errW_none,errW_some] <;> rfl)|(simp [*,errW_none,errW_some] <;> rfl),by repeat (first|(with_reducible first|exact HB.out|apply qA|apply qN|apply q1_|refine qS ?_ GE441.out)|exact HB.out)⟩
end Go.Proofs.Ytghkbgmbbcaecaa.Q
namespace Go.Proofs.Ytghkbgmbbcaecaa.Q
open Go.RowKit Go.Proofs.YtghkbgmbbcaecaaW.PrintWords Go.Proofs.YtghkbgmbbcaecaaW.PrintLast Go.Proofs.YtghkbgmbbcaecaaW.PrintMore
attribute [local go_sem] run_field_23 run_field_24 run_field_31 run_field_32 run_field_35 run_field_36 isSome_setCell max2_int min2_int max_two min_two max_three min_three max_four min_four   -- for this text's walks alone
set_option linter.unusedVariables false
set_option linter.unusedSimpArgs false
mutual
def laws_FnExactPressTrie.j0:Nat→Bool→Bool→Bool→List (S72)→List (S69)→List (S62)→List (S69)→Option (Bool)
  | 0,_,_,_,_,_,_,_=>none
  | k+1,x5,x8,x40,x444000,x453000,x457000,x462000=>if x40=true then (some false) else ((laws_toTrie.f k x444000).bind fun t463=>((laws_eqTrie.f k x457000 t463).bind fun t466=>(if t466=true then ((laws_markTrie.f k x457000 1).bind fun bt467=>(if bt467.1<0 then (laws_FnExactPressTrie.j1 k x5 true x444000 x453000 x462000) else ((laws_eqPressed.f k x462000 x453000).bind fun t469=>(if t469=true then (laws_FnExactPressTrie.j1 k x5 (x8 != x5) x444000 x453000 x462000) else (laws_FnExactPressTrie.j1 k x5 true x444000 x453000 x462000))))) else (some false))))
def laws_FnExactPressTrie.j1:Nat→Bool→Bool→List (S72)→List (S69)→List (S69)→Option (Bool)
  | 0,_,_,_,_,_=>none
  | k+1,x5,x61,x444000,x453000,x462000=>if x61=true then (some false) else ((laws_markPressed.f k x462000 1).bind fun bt470=>((laws_heldPressed.f k bt470.2 1).bind fun t472=>(if t472<0 then (some false) else (if t472=bt470.1 then ((laws_toTrie.f k x444000).bind fun t473=>((impl_PressTrie.f k t473).bind fun bt476=>((laws_eqPressed.f k bt476.1 x453000).bind fun t481=>(if t481=true then (laws_FnExactPressTrie.j2 k bt470.1 (bt476.2 != x5) bt470.2) else (laws_FnExactPressTrie.j2 k bt470.1 true bt470.2))))) else (some false)))))
def laws_FnExactPressTrie.j2:Nat→Int→Bool→List (S69)→Option (Bool)
  | 0,_,_,_=>none
  | k+1,x10,x87,x462000=>if x87=true then (some false) else ((laws_heldPressed.f k x462000 1).bind fun t482=>(if t482<0 then (some false) else (if t482=x10 then (some true) else (some false))))
end
def laws_FnExactPressTrie.f (k:Nat) (l0_0:List (S72)):Option (Bool):=(laws_szTrie.f l0_0 1048576).bind fun t444=>(if t444<0 then (some true) else ((laws_toTrie.f k l0_0).bind fun t445=>((spec_PressTrie.f k t445).bind fun bt448=>((laws_toTrie.f k l0_0).bind fun t453=>((impl_PressTrie.f k t453).bind fun bt457=>((laws_eqPressed.f k bt457.1 bt448.1).bind fun t462=>(if t462=true then (laws_FnExactPressTrie.j0 k bt448.2 bt457.2 (bt457.2 != bt448.2) l0_0 bt448.1 t453 bt457.1) else (laws_FnExactPressTrie.j0 k bt448.2 bt457.2 true l0_0 bt448.1 t453 bt457.1))))))))
set_option maxHeartbeats 8000000 in
set_option maxRecDepth 100000 in
theorem laws_FnExactPressTrie.calls (k:Nat) (A0_0:Option Addr) (c0_0:Nat) (l0_0:List (S72)) (r:Bool) (w:World) (hr0_0:Kd.C k72 w A0_0 l0_0.length l0_0) (hc0_0:l0_0.length≤c0_0) (h:laws_FnExactPressTrie.f k l0_0=some true) :
  Calls Try.prog 4 #[.agg #[.slice A0_0 l0_0.length c0_0]] w fun e w'=>e=.returned (.bool true)∧Below w.heap.size w w':=by
 have hu32:=Try.underlying32
 have hu36:=Try.underlying36
 have hu24:=Try.underlying24
 have HR0_0:=Zz.mk hr0_0
 have HC0_0:=Zz.mk hc0_0
 clear hr0_0 hc0_0
 have HB:=Zz.mk (Below.refl w.heap.size w)
 have H:((laws_szTrie.f l0_0 1048576).bind fun t444=>(if t444<0 then (some true) else ((laws_toTrie.f k l0_0).bind fun t445=>((spec_PressTrie.f k t445).bind fun bt448=>((laws_toTrie.f k l0_0).bind fun t453=>((impl_PressTrie.f k t453).bind fun bt457=>((laws_eqPressed.f k bt457.1 bt448.1).bind fun t462=>(if t462=true then (laws_FnExactPressTrie.j0 k bt448.2 bt457.2 (bt457.2 != bt448.2) l0_0 bt448.1 t453 bt457.1) else (laws_FnExactPressTrie.j0 k bt448.2 bt457.2 true l0_0 bt448.1 t453 bt457.1)))))))))=some true:=h
 clear h
 replace H:=Option.bind_eq_some_iff.mp H
 obtain ⟨t444,A20,H⟩:=H
 replace H:(if t444<0 then (some true) else ((laws_toTrie.f k l0_0).bind fun t445=>((spec_PressTrie.f k t445).bind fun bt448=>((laws_toTrie.f k l0_0).bind fun t453=>((impl_PressTrie.f k t453).bind fun bt457=>((laws_eqPressed.f k bt457.1 bt448.1).bind fun t462=>(if t462=true then (laws_FnExactPressTrie.j0 k bt448.2 bt457.2 (bt457.2 != bt448.2) l0_0 bt448.1 t453 bt457.1) else (laws_FnExactPressTrie.j0 k bt448.2 bt457.2 true l0_0 bt448.1 t453 bt457.1))))))))=some true:=H
 have A2:=Zz.mk A20
 clear A20
 by_cases c3:t444<0
 ·rw [if_pos c3] at H
  have c3b0:decide (t444<0)=true:=decide_eq_true c3
  clear c3
  (first|(obtain rfl:=Option.some.inj H)|(have hH_:=Option.some.inj H;try simp only [hH_]))
  go_enter Try.func4,Try.ntmps4
  go_wp2_with (first|((with_reducible refine gate_dst (N:=1) rfl ?_);refine box_event ?hg (N:=1) ?hd (cs:=#[.slice A0_0 l0_0.length c0_0]) (t:=32) ?hr ?_;(case hd=>rfl);(case hg=>rfl);(case hr=>first|(go_simp;done)|(go_simp;rfl));intro gb443 hg w4 hbox hb;have n0_:=Zz.mk (qP (by repeat (first|(with_reducible first|exact HB.out|apply qA|apply qN|apply q1_)|exact HB.out)) hb);have n1_:=Zz.mk (hbox);have n2_:=Zz.mk ((by rw [hg];exact (qZ (by repeat (first|(with_reducible first|exact HB.out|apply qA|apply qN|apply q1_)|exact HB.out))):w.heap.size≤gb443));have n3_:=Zz.mk ((by rw [hg];exact (qZ (by repeat (first|(with_reducible first|exact HB.out|apply qA|apply qN|apply q1_)|exact HB.out))):w.heap.size≤gb443));clear HB;have HB:=n0_;have BK443:=n1_;have GW443:=n2_;have GE443:=n3_;clear n0_ n1_ n2_ n3_;clear hb hbox hg;have hcz5_0:w4.cell? ⟨gb443,0,none⟩=some (.slice A0_0 l0_0.length c0_0):=(bC BK443.out 0).trans rfl;have hfz5_0:=bF BK443.out 0)|((with_reducible refine gate_callee (f:=10) rfl ?_);refine goesL_ (some 16) rfl rfl Try.func10 (by kernel_rfl) rfl #[.agg #[.slice A0_0 l0_0.length c0_0],.int .i64 1048576] rfl (by (try simp only [List.map_toArray,List.map_cons,List.map_nil]);first|done|rfl|(simp only [List.length_drop,List.length_take];rfl)) ?_;(with_reducible refine (laws_szTrie.calls _ _ l0_0 1048576 t444 _ ?side1 ?side2 A2.out).mono ?_);(case side1=>repeat (first|exact (Kd.C_below HR0_0.out HB.out)|(with_reducible refine Kd.C_alloc ?_ _)|(with_reducible refine Kd.C_drewN ?_ _)|(with_reducible refine Kd.C_drew ?_)));(case side2=>exact HC0_0.out);rintro e w6 ⟨rfl,hb⟩;refine ⟨_,rfl,?_⟩;have n0_:=Zz.mk (bB (g:=gb443) (o:=.cells #[.slice A0_0 l0_0.length c0_0] 32 (0,0)) (by (with_reducible repeat first|apply bN|apply bD|apply bA);exact BK443.out) hb);have n1_:=Zz.mk (qP (by repeat (first|(with_reducible first|exact HB.out|apply qA|apply qN|apply q1_|refine qS ?_ GE443.out)|exact HB.out)) hb);clear BK443;clear HB;have BK443:=n0_;have HB:=n1_;clear n0_ n1_;(try clear hb);(try clear hb2);(try clear hk);(try clear hi)))
  go_ret
  exact ⟨by first|rfl|(simp [errW_none,errW_some] <;> rfl)|(simp [*,errW_none,errW_some] <;> rfl),by repeat (first|(with_reducible first|exact HB.out|apply qA|apply qN|apply q1_|refine qS ?_ GE443.out)|exact HB.out)⟩
 ·rw [if_neg c3] at H
  have c3b0:decide (t444<0)=false:=decide_eq_false c3
  clear c3
  replace H:=Option.bind_eq_some_iff.mp H
  obtain ⟨t445,A70,H⟩:=H
  replace H:((spec_PressTrie.f k t445).bind fun bt448=>((laws_toTrie.f k l0_0).bind fun t453=>((impl_PressTrie.f k t453).bind fun bt457=>((laws_eqPressed.f k bt457.1 bt448.1).bind fun t462=>(if t462=true then (laws_FnExactPressTrie.j0 k bt448.2 bt457.2 (bt457.2 != bt448.2) l0_0 bt448.1 t453 bt457.1) else (laws_FnExactPressTrie.j0 k bt448.2 bt457.2 true l0_0 bt448.1 t453 bt457.1))))))=some true:=H
  have A7:=Zz.mk A70
  clear A70
  replace H:=Option.bind_eq_some_iff.mp H
  obtain ⟨⟨t448,t451⟩,A80,H⟩:=H
  replace H:((laws_toTrie.f k l0_0).bind fun t453=>((impl_PressTrie.f k t453).bind fun bt457=>((laws_eqPressed.f k bt457.1 t448).bind fun t462=>(if t462=true then (laws_FnExactPressTrie.j0 k t451 bt457.2 (bt457.2 != t451) l0_0 t448 t453 bt457.1) else (laws_FnExactPressTrie.j0 k t451 bt457.2 true l0_0 t448 t453 bt457.1)))))=some true:=H
  have A8:=Zz.mk A80
  clear A80
  replace H:=Option.bind_eq_some_iff.mp H
  obtain ⟨t453,A90,H⟩:=H
  replace H:((impl_PressTrie.f k t453).bind fun bt457=>((laws_eqPressed.f k bt457.1 t448).bind fun t462=>(if t462=true then (laws_FnExactPressTrie.j0 k t451 bt457.2 (bt457.2 != t451) l0_0 t448 t453 bt457.1) else (laws_FnExactPressTrie.j0 k t451 bt457.2 true l0_0 t448 t453 bt457.1))))=some true:=H
  have A9:=Zz.mk A90
  clear A90
  replace H:=Option.bind_eq_some_iff.mp H
  obtain ⟨⟨t457,t460⟩,A100,H⟩:=H
  replace H:((laws_eqPressed.f k t457 t448).bind fun t462=>(if t462=true then (laws_FnExactPressTrie.j0 k t451 t460 (t460 != t451) l0_0 t448 t453 t457) else (laws_FnExactPressTrie.j0 k t451 t460 true l0_0 t448 t453 t457)))=some true:=H
  have A10:=Zz.mk A100
  clear A100
  have HC11:=Zz.mk H
  clear H
  go_enter Try.func4,Try.ntmps4
  go_upto_region 8 with (first|((with_reducible refine gate_dst (N:=1) rfl ?_);refine box_event ?hg (N:=1) ?hd (cs:=#[.slice A0_0 l0_0.length c0_0]) (t:=32) ?hr ?_;(case hd=>rfl);(case hg=>rfl);(case hr=>first|(go_simp;done)|(go_simp;rfl));intro gb443 hg w12 hbox hb;have n0_:=Zz.mk (qP (by repeat (first|(with_reducible first|exact HB.out|apply qA|apply qN|apply q1_)|exact HB.out)) hb);have n1_:=Zz.mk (hbox);have n2_:=Zz.mk ((by rw [hg];exact (qZ (by repeat (first|(with_reducible first|exact HB.out|apply qA|apply qN|apply q1_)|exact HB.out))):w.heap.size≤gb443));have n3_:=Zz.mk ((by rw [hg];exact (qZ (by repeat (first|(with_reducible first|exact HB.out|apply qA|apply qN|apply q1_)|exact HB.out))):w.heap.size≤gb443));clear HB;have HB:=n0_;have BK443:=n1_;have GW443:=n2_;have GE443:=n3_;clear n0_ n1_ n2_ n3_;clear hb hbox hg;have hcz13_0:w12.cell? ⟨gb443,0,none⟩=some (.slice A0_0 l0_0.length c0_0):=(bC BK443.out 0).trans rfl;have hfz13_0:=bF BK443.out 0)|((with_reducible refine gate_callee (f:=10) rfl ?_);refine goesL_ (some 16) rfl rfl Try.func10 (by kernel_rfl) rfl #[.agg #[.slice A0_0 l0_0.length c0_0],.int .i64 1048576] rfl (by (try simp only [List.map_toArray,List.map_cons,List.map_nil]);first|done|rfl|(simp only [List.length_drop,List.length_take];rfl)) ?_;(with_reducible refine (laws_szTrie.calls _ _ l0_0 1048576 t444 _ ?side1 ?side2 A2.out).mono ?_);(case side1=>repeat (first|exact (Kd.C_below HR0_0.out HB.out)|(with_reducible refine Kd.C_alloc ?_ _)|(with_reducible refine Kd.C_drewN ?_ _)|(with_reducible refine Kd.C_drew ?_)));(case side2=>exact HC0_0.out);rintro e w14 ⟨rfl,hb⟩;refine ⟨_,rfl,?_⟩;have n0_:=Zz.mk (bB (g:=gb443) (o:=.cells #[.slice A0_0 l0_0.length c0_0] 32 (0,0)) (by (with_reducible repeat first|apply bN|apply bD|apply bA);exact BK443.out) hb);have n1_:=Zz.mk (qP (by repeat (first|(with_reducible first|exact HB.out|apply qA|apply qN|apply q1_|refine qS ?_ GE443.out)|exact HB.out)) hb);clear BK443;clear HB;have BK443:=n0_;have HB:=n1_;clear n0_ n1_;(try clear hb);(try clear hb2);(try clear hk);(try clear hi);have hcz15_0:w14.cell? ⟨gb443,0,none⟩=some (.slice A0_0 l0_0.length c0_0):=(bC BK443.out 0).trans rfl;have hfz15_0:=bF BK443.out 0)|((with_reducible refine gate_callee (f:=12) rfl ?_);refine goesL_ (some 21) rfl rfl Try.func12 (by kernel_rfl) rfl #[.agg #[.slice A0_0 l0_0.length c0_0]] rfl (by (try simp only [List.map_toArray,List.map_cons,List.map_nil]);first|done|rfl|(simp only [List.length_drop,List.length_take];rfl)) ?_;(with_reducible refine (laws_toTrie.calls k _ _ l0_0 t445 _ ?side1 ?side2 A7.out).mono ?_);(case side1=>repeat (first|exact (Kd.C_below HR0_0.out HB.out)|(with_reducible refine Kd.C_alloc ?_ _)|(with_reducible refine Kd.C_drewN ?_ _)|(with_reducible refine Kd.C_drew ?_)));(case side2=>exact HC0_0.out);rintro e w16 ⟨v446,rfl,ho0,hb⟩;refine ⟨_,rfl,?_⟩;have n0_:=Zz.mk (Kd.R_lower ho0 (qZ (by repeat (first|(with_reducible first|exact HB.out|apply qA|apply qN|apply q1_|refine qS ?_ GE443.out)|exact HB.out))));have n1_:=Zz.mk (bB (g:=gb443) (o:=.cells #[.slice A0_0 l0_0.length c0_0] 32 (0,0)) (by (with_reducible repeat first|apply bN|apply bD|apply bA);exact BK443.out) hb);have n2_:=Zz.mk (qP (by repeat (first|(with_reducible first|exact HB.out|apply qA|apply qN|apply q1_|refine qS ?_ GE443.out)|exact HB.out)) hb);clear BK443;clear HB;have HO447:=n0_;have BK443:=n1_;have HB:=n2_;clear n0_ n1_ n2_;(try clear hb);(try clear hb2);(try clear hk);(try clear hi);(try clear ho0);obtain ⟨Ao17,co17,eo17⟩:=Kd.R_slice HO447.out;subst eo17)|((with_reducible refine gate_callee (f:=11) rfl ?_);refine goesL_ (some 22) rfl rfl Try.func11 (by kernel_rfl) rfl #[.agg #[.slice Ao17 t445.length co17]] rfl (by (try simp only [List.map_toArray,List.map_cons,List.map_nil]);first|done|rfl|(simp only [List.length_drop,List.length_take];rfl)) ?_;(with_reducible refine (spec_PressTrie.calls k _ _ t445 t448 t451 _ ?side1 ?side2 A8.out).mono ?_);(case side1=>repeat (first|exact (Kd.R_reads' HO447.out).2.2|(with_reducible refine Kd.C_alloc ?_ _)|(with_reducible refine Kd.C_drewN ?_ _)|(with_reducible refine Kd.C_drew ?_)));(case side2=>exact (Kd.R_reads' HO447.out).2.1);rintro e w18 ⟨v449,rfl,ho0,hb⟩;refine ⟨_,rfl,?_⟩;have n0_:=Zz.mk (Kd.R_below (by (with_reducible repeat first|apply Kd.R_alloc|apply Kd.R_drewN|apply Kd.R_drew);exact HO447.out) hb);have n1_:=Zz.mk (Kd.R_lower ho0 (qZ (by repeat (first|(with_reducible first|exact HB.out|apply qA|apply qN|apply q1_|refine qS ?_ GE443.out)|exact HB.out))));have n2_:=Zz.mk (bB (g:=gb443) (o:=.cells #[.slice A0_0 l0_0.length c0_0] 32 (0,0)) (by (with_reducible repeat first|apply bN|apply bD|apply bA);exact BK443.out) hb);have n3_:=Zz.mk (qP (by repeat (first|(with_reducible first|exact HB.out|apply qA|apply qN|apply q1_|refine qS ?_ GE443.out)|exact HB.out)) hb);clear HO447;clear BK443;clear HB;have HO447:=n0_;have HO450:=n1_;have BK443:=n2_;have HB:=n3_;clear n0_ n1_ n2_ n3_;(try clear hb);(try clear hb2);(try clear hk);(try clear hi);(try clear ho0))|((with_reducible refine gate_dst (N:=4) rfl ?_);refine box_event ?hg (N:=4) ?hd (cs:=#[.slice none 0 0]) (t:=36) ?hr ?_;(case hd=>rfl);(case hg=>rfl);(case hr=>first|(go_simp;done)|(go_simp;rfl));intro gb452 hg w19 hbox hb;have n0_:=Zz.mk (Kd.R_below (by (with_reducible repeat first|apply Kd.R_alloc|apply Kd.R_drewN|apply Kd.R_drew);exact HO447.out) hb);have n1_:=Zz.mk (Kd.R_below (by (with_reducible repeat first|apply Kd.R_alloc|apply Kd.R_drewN|apply Kd.R_drew);exact HO450.out) hb);have n2_:=Zz.mk (bB (g:=gb443) (o:=.cells #[.slice A0_0 l0_0.length c0_0] 32 (0,0)) (by (with_reducible repeat first|apply bN|apply bD|apply bA);exact BK443.out) hb);have n3_:=Zz.mk (qP (by repeat (first|(with_reducible first|exact HB.out|apply qA|apply qN|apply q1_|refine qS ?_ GE443.out)|exact HB.out)) hb);have n4_:=Zz.mk (hbox);have n5_:=Zz.mk ((by rw [hg];exact (qZ (by repeat (first|(with_reducible first|exact HB.out|apply qA|apply qN|apply q1_|refine qS ?_ GE443.out)|exact HB.out))):w.heap.size≤gb452));have n6_:=Zz.mk ((by rw [hg];exact (qZ (by repeat (first|(with_reducible first|exact HB.out|apply qA|apply qN|apply q1_|refine qS ?_ GE443.out)|exact HB.out))):w.heap.size≤gb452));have n7_:=Zz.mk ((by rw [hg];exact Nat.ne_of_lt (blk_lt (g:=gb443) (o:=.cells #[.slice A0_0 l0_0.length c0_0] 32 (0,0)) (by (with_reducible repeat first|apply bN|apply bD|apply bA);exact BK443.out)):gb443 ≠ gb452));have n8_:=Zz.mk ((by rw [hg];exact Nat.ne_of_gt (blk_lt (g:=gb443) (o:=.cells #[.slice A0_0 l0_0.length c0_0] 32 (0,0)) (by (with_reducible repeat first|apply bN|apply bD|apply bA);exact BK443.out)):gb452 ≠ gb443));clear HO447;clear HO450;clear BK443;clear HB;have HO447:=n0_;have HO450:=n1_;have BK443:=n2_;have HB:=n3_;have BK452:=n4_;have GW452:=n5_;have GE452:=n6_;have NB443_452:=n7_;have NB452_443:=n8_;clear n0_ n1_ n2_ n3_ n4_ n5_ n6_ n7_ n8_;clear hb hbox hg;obtain ⟨Ao20,co20,eo20⟩:=Kd.R_slice HO450.out;subst eo20;have hnb21:=NB452_443.out;have hnc21:=NB443_452.out;have hcz22_0:w19.cell? ⟨gb452,0,none⟩=some (.slice none 0 0):=(bC BK452.out 0).trans rfl;have hfz22_0:=bF BK452.out 0;have hcz23_0:w19.cell? ⟨gb443,0,none⟩=some (.slice A0_0 l0_0.length c0_0):=(bC BK443.out 0).trans rfl;have hfz23_0:=bF BK443.out 0)|((with_reducible refine gate_callee (f:=12) rfl ?_);refine goesL_ (some 26) rfl rfl Try.func12 (by kernel_rfl) rfl #[.agg #[.slice A0_0 l0_0.length c0_0]] rfl (by (try simp only [List.map_toArray,List.map_cons,List.map_nil]);first|done|rfl|(simp only [List.length_drop,List.length_take];rfl)) ?_;(with_reducible refine (laws_toTrie.calls k _ _ l0_0 t453 _ ?side1 ?side2 A9.out).mono ?_);(case side1=>exact Kd.C_below HR0_0.out (by repeat (first|(with_reducible first|exact HB.out|apply qA|apply qN|apply q1_|refine qS ?_ GE443.out|refine qS ?_ GE452.out)|exact HB.out)));(case side2=>exact HC0_0.out);rintro e w24 ⟨v454,rfl,ho0,hb⟩;refine ⟨_,rfl,?_⟩;have n0_:=Zz.mk (Kd.R_elder' (by (with_reducible repeat first|apply Kd.R_alloc|apply Kd.R_drewN|apply Kd.R_drew);exact (Kd.R_mono (R_same_ (Kd.R_far (p:=⟨gb452,0,none⟩) (Kd.R_types HO447.out BK452.out (by decide)) (fun _ hk=>hk.2) (.slice Ao20 t448.length co20)) rfl) (fun _ h_=>h_.1))) (Kd.R_base ho0) hb);have n1_:=Zz.mk (Kd.R_below (by (with_reducible repeat first|apply Kd.R_alloc|apply Kd.R_drewN|apply Kd.R_drew);exact (Kd.R_mono (R_same_ (Kd.R_far (p:=⟨gb452,0,none⟩) (Kd.R_types HO450.out BK452.out (by decide)) (fun _ hk=>hk.2) (.slice Ao20 t448.length co20)) rfl) (fun _ h_=>h_.1))) hb);have n2_:=Zz.mk (Kd.R_lower (Kd.R_new' ho0 (Kd.R_lt (by (with_reducible repeat first|apply Kd.R_alloc|apply Kd.R_drewN|apply Kd.R_drew);exact (Kd.R_mono (R_same_ (Kd.R_far (p:=⟨gb452,0,none⟩) (Kd.R_types HO447.out BK452.out (by decide)) (fun _ hk=>hk.2) (.slice Ao20 t448.length co20)) rfl) (fun _ h_=>h_.1))))) (qZ (by repeat (first|(with_reducible first|exact HB.out|apply qA|apply qN|apply q1_|refine qS ?_ GE443.out|refine qS ?_ GE452.out)|exact HB.out))));have n3_:=Zz.mk (bB (g:=gb443) (o:=.cells #[.slice A0_0 l0_0.length c0_0] 32 (0,0)) (by (with_reducible repeat first|apply bN|apply bD|apply bA);refine blk_far ?_ NB443_452.out _;(with_reducible repeat first|apply bN|apply bD|apply bA);exact BK443.out) hb);have n4_:=Zz.mk (bB (g:=gb452) (o:=.cells #[.slice Ao20 t448.length co20] 36 (0,0)) (by (with_reducible repeat first|apply bN|apply bD|apply bA);refine blk_put (cs:=#[.slice none 0 0]) ?_ 0 _ rfl;(with_reducible repeat first|apply bN|apply bD|apply bA);exact BK452.out) hb);have n5_:=Zz.mk (qP (by repeat (first|(with_reducible first|exact HB.out|apply qA|apply qN|apply q1_|refine qS ?_ GE443.out|refine qS ?_ GE452.out)|exact HB.out)) hb);clear HO447;clear HO450;clear BK443;clear BK452;clear HB;have HO447:=n0_;have HO450:=n1_;have HO455:=n2_;have BK443:=n3_;have BK452:=n4_;have HB:=n5_;clear n0_ n1_ n2_ n3_ n4_ n5_;(try clear hb);(try clear hb2);(try clear hk);(try clear hi);(try clear ho0))|((with_reducible refine gate_dst (N:=6) rfl ?_);refine box_event ?hg (N:=6) ?hd (cs:=#[.slice none 0 0]) (t:=24) ?hr ?_;(case hd=>rfl);(case hg=>rfl);(case hr=>first|(go_simp;done)|(go_simp;rfl));intro gb456 hg w25 hbox hb;have n0_:=Zz.mk (Kd.R_below (by (with_reducible repeat first|apply Kd.R_alloc|apply Kd.R_drewN|apply Kd.R_drew);exact HO447.out) hb);have n1_:=Zz.mk (Kd.R_below (by (with_reducible repeat first|apply Kd.R_alloc|apply Kd.R_drewN|apply Kd.R_drew);exact HO450.out) hb);have n2_:=Zz.mk (Kd.R_below (by (with_reducible repeat first|apply Kd.R_alloc|apply Kd.R_drewN|apply Kd.R_drew);exact HO455.out) hb);have n3_:=Zz.mk (bB (g:=gb443) (o:=.cells #[.slice A0_0 l0_0.length c0_0] 32 (0,0)) (by (with_reducible repeat first|apply bN|apply bD|apply bA);exact BK443.out) hb);have n4_:=Zz.mk (bB (g:=gb452) (o:=.cells #[.slice Ao20 t448.length co20] 36 (0,0)) (by (with_reducible repeat first|apply bN|apply bD|apply bA);exact BK452.out) hb);have n5_:=Zz.mk (qP (by repeat (first|(with_reducible first|exact HB.out|apply qA|apply qN|apply q1_|refine qS ?_ GE443.out|refine qS ?_ GE452.out)|exact HB.out)) hb);have n6_:=Zz.mk (hbox);have n7_:=Zz.mk ((by rw [hg];exact (qZ (by repeat (first|(with_reducible first|exact HB.out|apply qA|apply qN|apply q1_|refine qS ?_ GE443.out|refine qS ?_ GE452.out)|exact HB.out))):w.heap.size≤gb456));have n8_:=Zz.mk ((by rw [hg];exact (qZ (by repeat (first|(with_reducible first|exact HB.out|apply qA|apply qN|apply q1_|refine qS ?_ GE443.out|refine qS ?_ GE452.out)|exact HB.out))):w.heap.size≤gb456));have n9_:=Zz.mk ((by rw [hg];exact Nat.ne_of_lt (blk_lt (g:=gb443) (o:=.cells #[.slice A0_0 l0_0.length c0_0] 32 (0,0)) (by (with_reducible repeat first|apply bN|apply bD|apply bA);exact BK443.out)):gb443 ≠ gb456));have n10_:=Zz.mk ((by rw [hg];exact Nat.ne_of_gt (blk_lt (g:=gb443) (o:=.cells #[.slice A0_0 l0_0.length c0_0] 32 (0,0)) (by (with_reducible repeat first|apply bN|apply bD|apply bA);exact BK443.out)):gb456 ≠ gb443));have n11_:=Zz.mk ((by rw [hg];exact Nat.ne_of_lt (blk_lt (g:=gb452) (o:=.cells #[.slice Ao20 t448.length co20] 36 (0,0)) (by (with_reducible repeat first|apply bN|apply bD|apply bA);exact BK452.out)):gb452 ≠ gb456));have n12_:=Zz.mk ((by rw [hg];exact Nat.ne_of_gt (blk_lt (g:=gb452) (o:=.cells #[.slice Ao20 t448.length co20] 36 (0,0)) (by (with_reducible repeat first|apply bN|apply bD|apply bA);exact BK452.out)):gb456 ≠ gb452));clear HO447;clear HO450;clear HO455;clear BK443;clear BK452;clear HB;have HO447:=n0_;have HO450:=n1_;have HO455:=n2_;have BK443:=n3_;have BK452:=n4_;have HB:=n5_;have BK456:=n6_;have GW456:=n7_;have GE456:=n8_;have NB443_456:=n9_;have NB456_443:=n10_;have NB452_456:=n11_;have NB456_452:=n12_;clear n0_ n1_ n2_ n3_ n4_ n5_ n6_ n7_ n8_ n9_ n10_ n11_ n12_;clear hb hbox hg;obtain ⟨Ao26,co26,eo26⟩:=Kd.R_slice HO455.out;subst eo26;have hnb27:=NB456_443.out;have hnc27:=NB443_456.out;have hnb28:=NB456_452.out;have hnc28:=NB452_456.out;have hcz29_0:w25.cell? ⟨gb456,0,none⟩=some (.slice none 0 0):=(bC BK456.out 0).trans rfl;have hfz29_0:=bF BK456.out 0)|((with_reducible refine gate_callee (f:=13) rfl ?_);refine goesL_ (some 29) rfl rfl Try.func13 (by kernel_rfl) rfl #[.agg #[.slice Ao26 t453.length co26]] rfl (by (try simp only [List.map_toArray,List.map_cons,List.map_nil]);first|done|rfl|(simp only [List.length_drop,List.length_take];rfl)) ?_;(with_reducible refine (impl_PressTrie.calls k _ _ t453 t457 t460 _ ?side1 ?side2 A10.out).mono ?_);(case side1=>refine (Kd.R_reads' (e:=62) (base:=w.heap.size) (ok:=fun k_=>(True∧some k_ ≠ (.slice Ao17 t445.length co17:Value).ownBlock)) (n:=t453.length) (c:=co26) ?_).2.2;exact (by (with_reducible repeat first|apply Kd.R_alloc|apply Kd.R_drewN|apply Kd.R_drew);exact (Kd.R_mono (R_same_ (Kd.R_far (p:=⟨gb456,0,none⟩) (Kd.R_types HO455.out BK456.out (by decide)) (fun _ hk=>hk.2) (.slice Ao26 t453.length co26)) rfl) (fun _ h_=>h_.1))));(case side2=>exact (Kd.R_reads' HO455.out).2.1);rintro e w30 ⟨v458,rfl,ho0,hb⟩;refine ⟨_,rfl,?_⟩;have n0_:=Zz.mk (Kd.R_below (by (with_reducible repeat first|apply Kd.R_alloc|apply Kd.R_drewN|apply Kd.R_drew);exact (Kd.R_mono (R_same_ (Kd.R_far (p:=⟨gb456,0,none⟩) (Kd.R_types HO447.out BK456.out (by decide)) (fun _ hk=>hk.2) (.slice Ao26 t453.length co26)) rfl) (fun _ h_=>h_.1))) hb);have n1_:=Zz.mk (Kd.R_elder' (by (with_reducible repeat first|apply Kd.R_alloc|apply Kd.R_drewN|apply Kd.R_drew);exact (Kd.R_mono (R_same_ (Kd.R_far (p:=⟨gb456,0,none⟩) (Kd.R_types HO450.out BK456.out (by decide)) (fun _ hk=>hk.2) (.slice Ao26 t453.length co26)) rfl) (fun _ h_=>h_.1))) (Kd.R_base ho0) hb);have n2_:=Zz.mk (Kd.R_below (by (with_reducible repeat first|apply Kd.R_alloc|apply Kd.R_drewN|apply Kd.R_drew);exact (Kd.R_mono (R_same_ (Kd.R_far (p:=⟨gb456,0,none⟩) (Kd.R_types HO455.out BK456.out (by decide)) (fun _ hk=>hk.2) (.slice Ao26 t453.length co26)) rfl) (fun _ h_=>h_.1))) hb);have n3_:=Zz.mk (Kd.R_lower (Kd.R_new' ho0 (Kd.R_lt (by (with_reducible repeat first|apply Kd.R_alloc|apply Kd.R_drewN|apply Kd.R_drew);exact (Kd.R_mono (R_same_ (Kd.R_far (p:=⟨gb456,0,none⟩) (Kd.R_types HO450.out BK456.out (by decide)) (fun _ hk=>hk.2) (.slice Ao26 t453.length co26)) rfl) (fun _ h_=>h_.1))))) (qZ (by repeat (first|(with_reducible first|exact HB.out|apply qA|apply qN|apply q1_|refine qS ?_ GE443.out|refine qS ?_ GE452.out|refine qS ?_ GE456.out)|exact HB.out))));have n4_:=Zz.mk (bB (g:=gb443) (o:=.cells #[.slice A0_0 l0_0.length c0_0] 32 (0,0)) (by (with_reducible repeat first|apply bN|apply bD|apply bA);refine blk_far ?_ NB443_456.out _;(with_reducible repeat first|apply bN|apply bD|apply bA);exact BK443.out) hb);have n5_:=Zz.mk (bB (g:=gb452) (o:=.cells #[.slice Ao20 t448.length co20] 36 (0,0)) (by (with_reducible repeat first|apply bN|apply bD|apply bA);refine blk_far ?_ NB452_456.out _;(with_reducible repeat first|apply bN|apply bD|apply bA);exact BK452.out) hb);have n6_:=Zz.mk (bB (g:=gb456) (o:=.cells #[.slice Ao26 t453.length co26] 24 (0,0)) (by (with_reducible repeat first|apply bN|apply bD|apply bA);refine blk_put (cs:=#[.slice none 0 0]) ?_ 0 _ rfl;(with_reducible repeat first|apply bN|apply bD|apply bA);exact BK456.out) hb);have n7_:=Zz.mk (qP (by repeat (first|(with_reducible first|exact HB.out|apply qA|apply qN|apply q1_|refine qS ?_ GE443.out|refine qS ?_ GE452.out|refine qS ?_ GE456.out)|exact HB.out)) hb);clear HO447;clear HO450;clear HO455;clear BK443;clear BK452;clear BK456;clear HB;have HO447:=n0_;have HO450:=n1_;have HO455:=n2_;have HO459:=n3_;have BK443:=n4_;have BK452:=n5_;have BK456:=n6_;have HB:=n7_;clear n0_ n1_ n2_ n3_ n4_ n5_ n6_ n7_;(try clear hb);(try clear hb2);(try clear hk);(try clear hi);(try clear ho0))|((with_reducible refine gate_dst (N:=7) rfl ?_);refine box_event ?hg (N:=7) ?hd (cs:=#[.slice none 0 0]) (t:=36) ?hr ?_;(case hd=>rfl);(case hg=>rfl);(case hr=>first|(go_simp;done)|(go_simp;rfl));intro gb461 hg w31 hbox hb;have n0_:=Zz.mk (Kd.R_below (by (with_reducible repeat first|apply Kd.R_alloc|apply Kd.R_drewN|apply Kd.R_drew);exact HO447.out) hb);have n1_:=Zz.mk (Kd.R_below (by (with_reducible repeat first|apply Kd.R_alloc|apply Kd.R_drewN|apply Kd.R_drew);exact HO450.out) hb);have n2_:=Zz.mk (Kd.R_below (by (with_reducible repeat first|apply Kd.R_alloc|apply Kd.R_drewN|apply Kd.R_drew);exact HO455.out) hb);have n3_:=Zz.mk (Kd.R_below (by (with_reducible repeat first|apply Kd.R_alloc|apply Kd.R_drewN|apply Kd.R_drew);exact HO459.out) hb);have n4_:=Zz.mk (bB (g:=gb443) (o:=.cells #[.slice A0_0 l0_0.length c0_0] 32 (0,0)) (by (with_reducible repeat first|apply bN|apply bD|apply bA);exact BK443.out) hb);have n5_:=Zz.mk (bB (g:=gb452) (o:=.cells #[.slice Ao20 t448.length co20] 36 (0,0)) (by (with_reducible repeat first|apply bN|apply bD|apply bA);exact BK452.out) hb);have n6_:=Zz.mk (bB (g:=gb456) (o:=.cells #[.slice Ao26 t453.length co26] 24 (0,0)) (by (with_reducible repeat first|apply bN|apply bD|apply bA);exact BK456.out) hb);have n7_:=Zz.mk (qP (by repeat (first|(with_reducible first|exact HB.out|apply qA|apply qN|apply q1_|refine qS ?_ GE443.out|refine qS ?_ GE452.out|refine qS ?_ GE456.out)|exact HB.out)) hb);have n8_:=Zz.mk (hbox);have n9_:=Zz.mk ((by rw [hg];exact (qZ (by repeat (first|(with_reducible first|exact HB.out|apply qA|apply qN|apply q1_|refine qS ?_ GE443.out|refine qS ?_ GE452.out|refine qS ?_ GE456.out)|exact HB.out))):w.heap.size≤gb461));have n10_:=Zz.mk ((by rw [hg];exact (qZ (by repeat (first|(with_reducible first|exact HB.out|apply qA|apply qN|apply q1_|refine qS ?_ GE443.out|refine qS ?_ GE452.out|refine qS ?_ GE456.out)|exact HB.out))):w.heap.size≤gb461));have n11_:=Zz.mk ((by rw [hg];exact Nat.ne_of_lt (blk_lt (g:=gb443) (o:=.cells #[.slice A0_0 l0_0.length c0_0] 32 (0,0)) (by (with_reducible repeat first|apply bN|apply bD|apply bA);exact BK443.out)):gb443 ≠ gb461));have n12_:=Zz.mk ((by rw [hg];exact Nat.ne_of_gt (blk_lt (g:=gb443) (o:=.cells #[.slice A0_0 l0_0.length c0_0] 32 (0,0)) (by (with_reducible repeat first|apply bN|apply bD|apply bA);exact BK443.out)):gb461 ≠ gb443));have n13_:=Zz.mk ((by rw [hg];exact Nat.ne_of_lt (blk_lt (g:=gb452) (o:=.cells #[.slice Ao20 t448.length co20] 36 (0,0)) (by (with_reducible repeat first|apply bN|apply bD|apply bA);exact BK452.out)):gb452 ≠ gb461));have n14_:=Zz.mk ((by rw [hg];exact Nat.ne_of_gt (blk_lt (g:=gb452) (o:=.cells #[.slice Ao20 t448.length co20] 36 (0,0)) (by (with_reducible repeat first|apply bN|apply bD|apply bA);exact BK452.out)):gb461 ≠ gb452));have n15_:=Zz.mk ((by rw [hg];exact Nat.ne_of_lt (blk_lt (g:=gb456) (o:=.cells #[.slice Ao26 t453.length co26] 24 (0,0)) (by (with_reducible repeat first|apply bN|apply bD|apply bA);exact BK456.out)):gb456 ≠ gb461));have n16_:=Zz.mk ((by rw [hg];exact Nat.ne_of_gt (blk_lt (g:=gb456) (o:=.cells #[.slice Ao26 t453.length co26] 24 (0,0)) (by (with_reducible repeat first|apply bN|apply bD|apply bA);exact BK456.out)):gb461 ≠ gb456));clear HO447;clear HO450;clear HO455;clear HO459;clear BK443;clear BK452;clear BK456;clear HB;have HO447:=n0_;have HO450:=n1_;have HO455:=n2_;have HO459:=n3_;have BK443:=n4_;have BK452:=n5_;have BK456:=n6_;have HB:=n7_;have BK461:=n8_;have GW461:=n9_;have GE461:=n10_;have NB443_461:=n11_;have NB461_443:=n12_;have NB452_461:=n13_;have NB461_452:=n14_;have NB456_461:=n15_;have NB461_456:=n16_;clear n0_ n1_ n2_ n3_ n4_ n5_ n6_ n7_ n8_ n9_ n10_ n11_ n12_ n13_ n14_ n15_ n16_;clear hb hbox hg;obtain ⟨Ao32,co32,eo32⟩:=Kd.R_slice HO459.out;subst eo32;have hnb33:=NB461_443.out;have hnc33:=NB443_461.out;have hnb34:=NB461_452.out;have hnc34:=NB452_461.out;have hnb35:=NB461_456.out;have hnc35:=NB456_461.out;have hcz36_0:w31.cell? ⟨gb461,0,none⟩=some (.slice none 0 0):=(bC BK461.out 0).trans rfl;have hfz36_0:=bF BK461.out 0))
  (try simp only [Act.put,List.setIfInBounds_toArray,List.set_cons_zero,List.set_cons_succ])
  go_cut [40] (fun v40 wc=>∃ (kq:Nat) (x40_10:Bool),v40=.bool x40_10∧Zz (laws_FnExactPressTrie.j0 kq t451 t460 x40_10 l0_0 t448 t453 t457=some true)∧Zz (kq≤k)∧Zz (Kd.R k69 69 wc w.heap.size (fun k_=>some k_ ≠ ((.slice Ao32 t457.length co32):Value).ownBlock) (.slice Ao20 t448.length co20) t448)∧Zz (Kd.R k62 62 wc w.heap.size (fun _=>True) (.slice Ao26 t453.length co26) t453)∧Zz (Kd.R k69 69 wc w.heap.size (fun k_=>some k_ ≠ ((.slice Ao20 t448.length co20):Value).ownBlock) (.slice Ao32 t457.length co32) t457)∧Zz (wc.heap[gb443]?=some (.cells #[(.slice A0_0 l0_0.length c0_0)] 32 (0,0)))∧Zz (wc.heap[gb452]?=some (.cells #[(.slice Ao20 t448.length co20)] 36 (0,0)))∧Zz (wc.heap[gb456]?=some (.cells #[(.slice Ao26 t453.length co26)] 24 (0,0)))∧Zz (wc.heap[gb461]?=some (.cells #[(.slice Ao32 t457.length co32)] 36 (0,0)))∧Zz (Below w.heap.size w wc))
  case first =>
   have H:=HC11.out
   clear HC11
   replace H:=Option.bind_eq_some_iff.mp H
   obtain ⟨t462,A370,H⟩:=H
   replace H:(if t462=true then (laws_FnExactPressTrie.j0 k t451 t460 (t460 != t451) l0_0 t448 t453 t457) else (laws_FnExactPressTrie.j0 k t451 t460 true l0_0 t448 t453 t457))=some true:=H
   have A37:=Zz.mk A370
   clear A370
   by_cases c38:t462=true
   ·subst c38
    have H1:(laws_FnExactPressTrie.j0 k t451 t460 (t460 != t451) l0_0 t448 t453 t457)=some true:=by rw [if_pos rfl] at H;exact H
    clear H
    have H:=H1
    clear H1
    have H':=Zz.mk H
    clear H
    have hnb39:=NB461_443.out
    have hnc39:=NB443_461.out
    have hnb40:=NB461_452.out
    have hnc40:=NB452_461.out
    have hnb41:=NB461_456.out
    have hnc41:=NB456_461.out
    have hcz42_0:w31.cell? ⟨gb461,0,none⟩=some (.slice none 0 0):=(bC BK461.out 0).trans rfl
    have hfz42_0:=bF BK461.out 0
    have hnb43:=NB452_443.out
    have hnc43:=NB443_452.out
    have hnb44:=NB452_456.out
    have hnc44:=NB456_452.out
    have hcz45_0:w31.cell? ⟨gb452,0,none⟩=some (.slice Ao20 t448.length co20):=(bC BK452.out 0).trans rfl
    have hfz45_0:=bF BK452.out 0
    go_wp2_with (first|((with_reducible refine gate_callee (f:=14) rfl ?_);refine goesL_ (some 34) rfl rfl Try.func14 (by kernel_rfl) rfl #[.agg #[.slice Ao32 t457.length co32],.agg #[.slice Ao20 t448.length co20]] rfl (by (try simp only [List.map_toArray,List.map_cons,List.map_nil]);first|done|rfl|(simp only [List.length_drop,List.length_take];rfl)) ?_;(with_reducible refine (laws_eqPressed.calls k _ _ t457 _ _ t448 true _ ?side1 ?side2 ?side3 ?side4 A37.out).mono ?_);(case side1=>refine (Kd.R_reads' (e:=69) (base:=w.heap.size) (ok:=fun k_=>(True∧some k_ ≠ (.slice Ao20 t448.length co20:Value).ownBlock)) (n:=t457.length) (c:=co32) ?_).2.2;exact (by (with_reducible repeat first|apply Kd.R_alloc|apply Kd.R_drewN|apply Kd.R_drew);exact (Kd.R_mono (R_same_ (Kd.R_far (p:=⟨gb461,0,none⟩) (Kd.R_types HO459.out BK461.out (by decide)) (fun _ hk=>hk.2) (.slice Ao32 t457.length co32)) rfl) (fun _ h_=>h_.1))));(case side2=>exact (Kd.R_reads' HO459.out).2.1);(case side3=>refine (Kd.R_reads' (e:=69) (base:=w.heap.size) (ok:=fun k_=>(True∧some k_ ≠ (.slice Ao32 t457.length co32:Value).ownBlock)) (n:=t448.length) (c:=co20) ?_).2.2;exact (by (with_reducible repeat first|apply Kd.R_alloc|apply Kd.R_drewN|apply Kd.R_drew);exact (Kd.R_mono (R_same_ (Kd.R_far (p:=⟨gb461,0,none⟩) (Kd.R_types HO450.out BK461.out (by decide)) (fun _ hk=>hk.2) (.slice Ao32 t457.length co32)) rfl) (fun _ h_=>h_.1))));(case side4=>exact (Kd.R_reads' HO450.out).2.1);rintro e w46 ⟨rfl,hb⟩;refine ⟨_,rfl,?_⟩;have n0_:=Zz.mk (Kd.R_below (by (with_reducible repeat first|apply Kd.R_alloc|apply Kd.R_drewN|apply Kd.R_drew);exact (Kd.R_mono (R_same_ (Kd.R_far (p:=⟨gb461,0,none⟩) (Kd.R_types HO447.out BK461.out (by decide)) (fun _ hk=>hk.2) (.slice Ao32 t457.length co32)) rfl) (fun _ h_=>h_.1))) hb);have n1_:=Zz.mk (Kd.R_below (by (with_reducible repeat first|apply Kd.R_alloc|apply Kd.R_drewN|apply Kd.R_drew);exact (Kd.R_mono (R_same_ (Kd.R_far (p:=⟨gb461,0,none⟩) (Kd.R_types HO450.out BK461.out (by decide)) (fun _ hk=>hk.2) (.slice Ao32 t457.length co32)) rfl) (fun _ h_=>h_.1))) hb);have n2_:=Zz.mk (Kd.R_below (by (with_reducible repeat first|apply Kd.R_alloc|apply Kd.R_drewN|apply Kd.R_drew);exact (Kd.R_mono (R_same_ (Kd.R_far (p:=⟨gb461,0,none⟩) (Kd.R_types HO455.out BK461.out (by decide)) (fun _ hk=>hk.2) (.slice Ao32 t457.length co32)) rfl) (fun _ h_=>h_.1))) hb);have n3_:=Zz.mk (Kd.R_below (by (with_reducible repeat first|apply Kd.R_alloc|apply Kd.R_drewN|apply Kd.R_drew);exact (Kd.R_mono (R_same_ (Kd.R_far (p:=⟨gb461,0,none⟩) (Kd.R_types HO459.out BK461.out (by decide)) (fun _ hk=>hk.2) (.slice Ao32 t457.length co32)) rfl) (fun _ h_=>h_.1))) hb);have n4_:=Zz.mk (bB (g:=gb443) (o:=.cells #[.slice A0_0 l0_0.length c0_0] 32 (0,0)) (by (with_reducible repeat first|apply bN|apply bD|apply bA);refine blk_far ?_ NB443_461.out _;(with_reducible repeat first|apply bN|apply bD|apply bA);exact BK443.out) hb);have n5_:=Zz.mk (bB (g:=gb452) (o:=.cells #[.slice Ao20 t448.length co20] 36 (0,0)) (by (with_reducible repeat first|apply bN|apply bD|apply bA);refine blk_far ?_ NB452_461.out _;(with_reducible repeat first|apply bN|apply bD|apply bA);exact BK452.out) hb);have n6_:=Zz.mk (bB (g:=gb456) (o:=.cells #[.slice Ao26 t453.length co26] 24 (0,0)) (by (with_reducible repeat first|apply bN|apply bD|apply bA);refine blk_far ?_ NB456_461.out _;(with_reducible repeat first|apply bN|apply bD|apply bA);exact BK456.out) hb);have n7_:=Zz.mk (bB (g:=gb461) (o:=.cells #[.slice Ao32 t457.length co32] 36 (0,0)) (by (with_reducible repeat first|apply bN|apply bD|apply bA);refine blk_put (cs:=#[.slice none 0 0]) ?_ 0 _ rfl;(with_reducible repeat first|apply bN|apply bD|apply bA);exact BK461.out) hb);have n8_:=Zz.mk (qP (by repeat (first|(with_reducible first|exact HB.out|apply qA|apply qN|apply q1_|refine qS ?_ GE443.out|refine qS ?_ GE452.out|refine qS ?_ GE456.out|refine qS ?_ GE461.out)|exact HB.out)) hb);clear HO447;clear HO450;clear HO455;clear HO459;clear BK443;clear BK452;clear BK456;clear BK461;clear HB;have HO447:=n0_;have HO450:=n1_;have HO455:=n2_;have HO459:=n3_;have BK443:=n4_;have BK452:=n5_;have BK456:=n6_;have BK461:=n7_;have HB:=n8_;clear n0_ n1_ n2_ n3_ n4_ n5_ n6_ n7_ n8_;(try clear hb);(try clear hb2);(try clear hk);(try clear hi)))
    go_meet
    case rel=>exact ⟨_,((t460 != t451)),(by first|rfl|(simp;done)|(simp [*];done)),H',⟨by first|omega|exact Nat.le_refl _⟩,⟨by (with_reducible repeat first|apply Kd.R_alloc|apply Kd.R_drewN|apply Kd.R_drew);exact Kd.R_mono HO450.out (fun _ hk=>hk.2)⟩,⟨by (with_reducible repeat first|apply Kd.R_alloc|apply Kd.R_drewN|apply Kd.R_drew);exact Kd.R_mono HO455.out (fun _ hk=>trivial)⟩,⟨by (with_reducible repeat first|apply Kd.R_alloc|apply Kd.R_drewN|apply Kd.R_drew);exact Kd.R_mono HO459.out (fun _ hk=>hk.2)⟩,⟨by (with_reducible repeat first|apply bN|apply bD|apply bA);exact BK443.out⟩,⟨by (with_reducible repeat first|apply bN|apply bD|apply bA);exact BK452.out⟩,⟨by (with_reducible repeat first|apply bN|apply bD|apply bA);exact BK456.out⟩,⟨by (with_reducible repeat first|apply bN|apply bD|apply bA);exact BK461.out⟩,⟨by repeat (first|(with_reducible first|exact HB.out|apply qA|apply qN|apply q1_|refine qS ?_ GE443.out|refine qS ?_ GE452.out|refine qS ?_ GE456.out|refine qS ?_ GE461.out)|exact HB.out)⟩⟩
   ·replace c38:=Bool.eq_false_iff.mpr c38
    subst c38
    have H1:(laws_FnExactPressTrie.j0 k t451 t460 true l0_0 t448 t453 t457)=some true:=by rw [if_neg (show ¬ (false=true) by decide)] at H;exact H
    exact absurd H1 (by cases k <;> simp [laws_FnExactPressTrie.j0])
  case rest =>
   clear HC11
   try clear c1
   try clear c2
   try clear p2
   try clear c3
   try clear c3b0
   try clear c4
   try clear c5
   try clear c10
   try clear c11
   try clear c12
   try clear c13
   try clear c14
   try clear c21
   try clear c27
   try clear c28
   try clear c33
   try clear c34
   try clear c35
   try clear c38
   try clear c39
   try clear c40
   try clear c41
   try clear c43
   try clear c44
   try clear c47
   try clear c48
   try clear c49
   try clear c51
   try clear c52
   try clear hcz13_0
   try clear hcz15_0
   try clear hcz22_0
   try clear hcz23_0
   try clear hcz29_0
   try clear hcz36_0
   try clear hcz42_0
   try clear hcz45_0
   try clear hcz50_0
   try clear hcz53_0
   try clear hcz5_0
   try clear hfz13_0
   try clear hfz15_0
   try clear hfz22_0
   try clear hfz23_0
   try clear hfz29_0
   try clear hfz36_0
   try clear hfz42_0
   try clear hfz45_0
   try clear hfz50_0
   try clear hfz53_0
   try clear hfz5_0
   obtain ⟨kq,x40_10,rfl,HA,HJ10,HO_453000,HO_457000,HO_462000,BK443,BK452,BK456,BK461,HB⟩:=hcut
   cases kq with
   | zero=>exact absurd HA.out (by simp [laws_FnExactPressTrie.j0])
   | succ kj10 =>
    have H:=HA.out
    clear HA
    simp only [laws_FnExactPressTrie.j0] at H
    by_cases c55:x40_10=true
    ·subst c55
     have H1:(some false)=some true:=by rw [if_pos rfl] at H;exact H
     exact absurd H1 (by simp)
    ·replace c55:=Bool.eq_false_iff.mpr c55
     subst c55
     have H1:((laws_toTrie.f kj10 l0_0).bind fun t463=>((laws_eqTrie.f kj10 t453 t463).bind fun t466=>(if t466=true then ((laws_markTrie.f kj10 t453 1).bind fun bt467=>(if bt467.1<0 then (laws_FnExactPressTrie.j1 kj10 t451 true l0_0 t448 t457) else ((laws_eqPressed.f kj10 t457 t448).bind fun t469=>(if t469=true then (laws_FnExactPressTrie.j1 kj10 t451 (t460 != t451) l0_0 t448 t457) else (laws_FnExactPressTrie.j1 kj10 t451 true l0_0 t448 t457))))) else (some false))))=some true:=by rw [if_neg (show ¬ (false=true) by decide)] at H;exact H
     clear H
     have H:=H1
     clear H1
     replace H:=Option.bind_eq_some_iff.mp H
     obtain ⟨t463,A560,H⟩:=H
     replace H:((laws_eqTrie.f kj10 t453 t463).bind fun t466=>(if t466=true then ((laws_markTrie.f kj10 t453 1).bind fun bt467=>(if bt467.1<0 then (laws_FnExactPressTrie.j1 kj10 t451 true l0_0 t448 t457) else ((laws_eqPressed.f kj10 t457 t448).bind fun t469=>(if t469=true then (laws_FnExactPressTrie.j1 kj10 t451 (t460 != t451) l0_0 t448 t457) else (laws_FnExactPressTrie.j1 kj10 t451 true l0_0 t448 t457))))) else (some false)))=some true:=H
     have A56:=Zz.mk A560
     clear A560
     replace H:=Option.bind_eq_some_iff.mp H
     obtain ⟨t466,A570,H⟩:=H
     replace H:(if t466=true then ((laws_markTrie.f kj10 t453 1).bind fun bt467=>(if bt467.1<0 then (laws_FnExactPressTrie.j1 kj10 t451 true l0_0 t448 t457) else ((laws_eqPressed.f kj10 t457 t448).bind fun t469=>(if t469=true then (laws_FnExactPressTrie.j1 kj10 t451 (t460 != t451) l0_0 t448 t457) else (laws_FnExactPressTrie.j1 kj10 t451 true l0_0 t448 t457))))) else (some false))=some true:=H
     have A57:=Zz.mk A570
     clear A570
     by_cases c58:t466=true
     ·subst c58
      have H1:((laws_markTrie.f kj10 t453 1).bind fun bt467=>(if bt467.1<0 then (laws_FnExactPressTrie.j1 kj10 t451 true l0_0 t448 t457) else ((laws_eqPressed.f kj10 t457 t448).bind fun t469=>(if t469=true then (laws_FnExactPressTrie.j1 kj10 t451 (t460 != t451) l0_0 t448 t457) else (laws_FnExactPressTrie.j1 kj10 t451 true l0_0 t448 t457)))))=some true:=by rw [if_pos rfl] at H;exact H
      clear H
      have H:=H1
      clear H1
      replace H:=Option.bind_eq_some_iff.mp H
      obtain ⟨⟨t467,t468⟩,A590,H⟩:=H
      replace H:(if t467<0 then (laws_FnExactPressTrie.j1 kj10 t451 true l0_0 t448 t457) else ((laws_eqPressed.f kj10 t457 t448).bind fun t469=>(if t469=true then (laws_FnExactPressTrie.j1 kj10 t451 (t460 != t451) l0_0 t448 t457) else (laws_FnExactPressTrie.j1 kj10 t451 true l0_0 t448 t457))))=some true:=H
      have A59:=Zz.mk A590
      clear A590
      have HC60:=Zz.mk H
      clear H
      try go_wp2
      have n0_:=Zz.mk (Kd.R_drew HO_453000.out)
      have n1_:=Zz.mk (Kd.R_drew HO_457000.out)
      have n2_:=Zz.mk (Kd.R_drew HO_462000.out)
      have n3_:=Zz.mk (bD BK443.out)
      have n4_:=Zz.mk (bD BK452.out)
      have n5_:=Zz.mk (bD BK456.out)
      have n6_:=Zz.mk (bD BK461.out)
      have n7_:=Zz.mk (q1_ HB.out)
      revert n0_ n1_ n2_ n3_ n4_ n5_ n6_ n7_
      clear HO_453000 HO_457000 HO_462000 BK443 BK452 BK456 BK461 HB
      intro HO_453000 HO_457000 HO_462000 BK443 BK452 BK456 BK461 HB
      refine start_ (n:=5) (S:=fun w'=>w'.cell? ⟨gb456,0,none⟩=some (.slice Ao26 t453.length co26)∧w'.cell? ⟨gb443,0,none⟩=some (.slice A0_0 l0_0.length c0_0)) (ds:=[]) #[false,false,false,false,false] (by kernel_rfl) rfl rfl ⟨(bC BK456.out 0).trans rfl,(bC BK443.out 0).trans rfl⟩ (fun hHeld=>?_)
      generalize wc.drew=w61 at HO_453000 HO_457000 HO_462000 BK443 BK452 BK456 BK461 HB hHeld ⊢
      refine take_ (i:=0) (N:=some 41) (v:=?_) (a':=?_) #[true,false,false,false,false] rfl rfl (by kernel_rfl) (fun _ _ _ h=>h) (Or.inl ⟨by rfl,?_⟩) hHeld ?_ ?_
      rotate_left
      ·rintro w' ⟨s0,s1⟩
       go_simp
       with_reducible rfl
      rotate_left
      ·simp only [Act.put,List.setIfInBounds_toArray,List.set_cons_zero,List.set_cons_succ,i64_w,i32_w]
       rfl
      refine take_ (i:=1) (N:=some 42) (v:=?_) (a':=?_) #[true,true,false,false,false] rfl rfl (by kernel_rfl) (fun _ _ _ h=>h) (Or.inl ⟨by rfl,?_⟩) hHeld ?_ ?_
      rotate_left
      ·rintro w' ⟨s0,s1⟩
       go_simp
       with_reducible rfl
      rotate_left
      ·simp only [Act.put,List.setIfInBounds_toArray,List.set_cons_zero,List.set_cons_succ,i64_w,i32_w]
       rfl
      refine one_ (i:=2) (N:=some 43) #[true,true,true,false,false] rfl rfl (by kernel_rfl) (by decide) (fun K hK=>?_)
      refine goes_ Try.func12 (by kernel_rfl) rfl #[.agg #[.slice A0_0 l0_0.length c0_0]] (by rfl) rfl rfl (by (try simp only [List.map_toArray,List.map_cons,List.map_nil]);first|done|rfl|(simp only [List.length_drop,List.length_take];rfl)) ?_
      with_reducible refine (laws_toTrie.calls kj10 _ _ l0_0 t463 _ ?side1 ?side2 A56.out).mono ?_
      (case side1=>exact (Kd.C_below HR0_0.out HB.out))
      (case side2=>exact HC0_0.out)
      rintro e w62 ⟨v464,rfl,ho0,hb⟩
      refine ⟨_,rfl,?_⟩
      have n0_:=Zz.mk (Kd.R_below HO_453000.out hb)
      have n1_:=Zz.mk (Kd.R_elder' HO_457000.out (Kd.R_base ho0) hb)
      have n2_:=Zz.mk (Kd.R_below HO_462000.out hb)
      have n3_:=Zz.mk (Kd.R_lower (Kd.R_new' ho0 (Kd.R_lt HO_457000.out)) (qZ HB.out))
      have n4_:=Zz.mk (bB BK443.out hb)
      have n5_:=Zz.mk (bB BK452.out hb)
      have n6_:=Zz.mk (bB BK456.out hb)
      have n7_:=Zz.mk (bB BK461.out hb)
      have n8_:=Zz.mk (qP HB.out hb)
      revert n0_ n1_ n2_ n3_ n4_ n5_ n6_ n7_ n8_
      clear HO_453000 HO_457000 HO_462000 BK443 BK452 BK456 BK461 HB
      intro HO_453000 HO_457000 HO_462000 HO465 BK443 BK452 BK456 BK461 HB
      (try clear hb)
      (try clear hb2)
      (try clear hk)
      (try clear hi)
      (try clear ho0)
      obtain ⟨Ao63,co63,eo63⟩:=Kd.R_slice HO465.out
      (first|subst eo63|(injection eo63 with f1_ f2_ f3_;have f4_:=f1_.symm;have f5_:=f3_.symm;clear f1_ f2_ f3_;subst f4_;subst f5_))
      refine hK.out _ _ ⟨(bC BK456.out 0).trans rfl,(bC BK443.out 0).trans rfl⟩ (fun hHeld=>?_)
      clear hK K
      refine norm_ (a':=?_) ?_ ?_
      rotate_left
      ·show Act.put _ (some 43) _=_
       simp only [Act.put,List.setIfInBounds_toArray,List.set_cons_zero,List.set_cons_succ,i64_w,i32_w]
       rfl
      refine one_ (i:=3) (N:=some 44) #[true,true,true,true,false] rfl rfl (by kernel_rfl) (by decide) (fun K hK=>?_)
      refine goes_ Try.func7 (by kernel_rfl) rfl #[.agg #[.slice Ao26 t453.length co26],.agg #[.slice Ao63 t463.length co63]] (by rfl) rfl rfl (by (try simp only [List.map_toArray,List.map_cons,List.map_nil]);first|done|rfl|(simp only [List.length_drop,List.length_take];rfl)) ?_
      with_reducible refine (laws_eqTrie.calls kj10 _ _ t453 _ _ t463 true _ ?side1 ?side2 ?side3 ?side4 A57.out).mono ?_
      (case side1=>exact (Kd.R_reads' HO_457000.out).2.2)
      (case side2=>exact (Kd.R_reads' HO_457000.out).2.1)
      (case side3=>exact (Kd.R_reads' HO465.out).2.2)
      (case side4=>exact (Kd.R_reads' HO465.out).2.1)
      rintro e w64 ⟨rfl,hb⟩
      refine ⟨_,rfl,?_⟩
      have n0_:=Zz.mk (Kd.R_below HO_453000.out hb)
      have n1_:=Zz.mk (Kd.R_below HO_457000.out hb)
      have n2_:=Zz.mk (Kd.R_below HO_462000.out hb)
      have n3_:=Zz.mk (Kd.R_below HO465.out hb)
      have n4_:=Zz.mk (bB BK443.out hb)
      have n5_:=Zz.mk (bB BK452.out hb)
      have n6_:=Zz.mk (bB BK456.out hb)
      have n7_:=Zz.mk (bB BK461.out hb)
      have n8_:=Zz.mk (qP HB.out hb)
      revert n0_ n1_ n2_ n3_ n4_ n5_ n6_ n7_ n8_
      clear HO_453000 HO_457000 HO_462000 HO465 BK443 BK452 BK456 BK461 HB
      intro HO_453000 HO_457000 HO_462000 HO465 BK443 BK452 BK456 BK461 HB
      (try clear hb)
      (try clear hb2)
      (try clear hk)
      (try clear hi)
      refine hK.out _ _ ⟨(bC BK456.out 0).trans rfl,(bC BK443.out 0).trans rfl⟩ (fun hHeld=>?_)
      clear hK K
      refine norm_ (a':=?_) ?_ ?_
      rotate_left
      ·show Act.put _ (some 44) _=_
       simp only [Act.put,List.setIfInBounds_toArray,List.set_cons_zero,List.set_cons_succ,i64_w,i32_w]
       rfl
      refine pure_ (i:=4) (N:=some 45) (v:=?_) (a':=?_) #[true,true,true,true,true] rfl rfl (by kernel_rfl) (fun _ _ _ h=>h) (Or.inl ⟨by rfl,?_⟩) ?_ ?_
      rotate_left
      ·intro w'
       go_simp
       with_reducible rfl
      rotate_left
      ·simp only [Act.put,List.setIfInBounds_toArray,List.set_cons_zero,List.set_cons_succ,i64_w,i32_w]
       rfl
      refine done_ (by kernel_rfl) ?_
      have hnb65:=NB456_443.out
      have hnc65:=NB443_456.out
      have hnb66:=NB456_452.out
      have hnc66:=NB452_456.out
      have hnb67:=NB456_461.out
      have hnc67:=NB461_456.out
      have hcz68_0:w64.cell? ⟨gb456,0,none⟩=some (.slice Ao26 t453.length co26):=(bC BK456.out 0).trans rfl
      have hfz68_0:=bF BK456.out 0
      go_upto_region 14 with (first|((with_reducible refine gate_callee (f:=8) rfl ?_);refine goesL_ (some 48) rfl rfl Try.func8 (by kernel_rfl) rfl #[.agg #[.slice Ao26 t453.length co26],.int .i64 1] rfl (by (try simp only [List.map_toArray,List.map_cons,List.map_nil]);first|done|rfl|(simp only [List.length_drop,List.length_take];rfl)) ?_;(with_reducible refine (laws_markTrie.calls kj10 (fun k_=>some k_=(.slice Ao26 t453.length co26:Value).ownBlock) (.slice Ao26 t453.length co26) t453 1 t467 t468 w _ ?side1 ?side2 A59.out).mono ?_);(case side1=>repeat (first|(with_reducible first|exact HB.out|apply qA|apply qN|apply q1_|refine qS ?_ GE443.out|refine qS ?_ GE452.out|refine qS ?_ GE456.out|refine qS ?_ GE461.out)|exact HB.out));(case side2=>exact Kd.R_tight rfl HO_457000.out);rintro e w69 ⟨rfl,hy0,hb,hkp⟩;refine ⟨_,rfl,?_⟩;have n0_:=Zz.mk (Kd.R_mono (ok':=fun k_=>some k_ ≠ (.slice Ao32 t457.length co32:Value).ownBlock) (Kd.R_keptB ((Kd.R_apart' HO_453000.out (Kd.R_typed HO_457000.out) (by decide))) hkp (fun k_ hk_ hs_=>(hk_.2) hs_)) (fun k_ hk_=>hk_.1.1));have n1_:=Zz.mk (Kd.R_reok rfl hy0 (fun k_ e_=>HO_457000.out.1 k_ e_));have n2_:=Zz.mk (Kd.R_mono (ok':=fun k_=>some k_ ≠ (.slice Ao20 t448.length co20:Value).ownBlock) (Kd.R_keptB ((Kd.R_apart' HO_462000.out (Kd.R_typed HO_457000.out) (by decide))) hkp (fun k_ hk_ hs_=>(hk_.2) hs_)) (fun k_ hk_=>hk_.1.1));have n3_:=Zz.mk (blk_kept (by (with_reducible repeat first|apply bN|apply bD|apply bA);exact BK443.out) hkp (fun hs_=>(fun e_=>(Kd.R_ne HO_457000.out BK443.out (by decide)) e_) hs_));have n4_:=Zz.mk (blk_kept (by (with_reducible repeat first|apply bN|apply bD|apply bA);exact BK452.out) hkp (fun hs_=>(fun e_=>(Kd.R_ne HO_457000.out BK452.out (by decide)) e_) hs_));have n5_:=Zz.mk (blk_kept (by (with_reducible repeat first|apply bN|apply bD|apply bA);exact BK456.out) hkp (fun hs_=>(fun e_=>(Kd.R_ne HO_457000.out BK456.out (by decide)) e_) hs_));have n6_:=Zz.mk (blk_kept (by (with_reducible repeat first|apply bN|apply bD|apply bA);exact BK461.out) hkp (fun hs_=>(fun e_=>(Kd.R_ne HO_457000.out BK461.out (by decide)) e_) hs_));have n7_:=Zz.mk (Kd.R_mono (ok':=fun k_=>some k_ ≠ (.slice Ao26 t453.length co26:Value).ownBlock) (Kd.R_keptB (HO465.out) hkp (fun k_ hk_ hs_=>(hk_.2) hs_)) (fun k_ hk_=>hk_.1.2));have n8_:=Zz.mk (hb);clear HO_453000;clear HO_457000;clear HO_462000;clear BK443;clear BK452;clear BK456;clear BK461;clear HO465;clear HB;have HO_453000:=n0_;have HO_457000:=n1_;have HO_462000:=n2_;have BK443:=n3_;have BK452:=n4_;have BK456:=n5_;have BK461:=n6_;have HO465:=n7_;have HB:=n8_;clear n0_ n1_ n2_ n3_ n4_ n5_ n6_ n7_ n8_;(try clear hb);(try clear hkp);(try clear hy0)))
      (try simp only [Act.put,List.setIfInBounds_toArray,List.set_cons_zero,List.set_cons_succ])
      go_cut [61] (fun v61 wc=>∃ (kq:Nat) (x61_59:Bool),v61=.bool x61_59∧Zz (laws_FnExactPressTrie.j1 kq t451 x61_59 l0_0 t448 t457=some true)∧Zz (kq≤kj10)∧Zz (Kd.R k69 69 wc w.heap.size (fun k_=>some k_ ≠ ((.slice Ao32 t457.length co32):Value).ownBlock) (.slice Ao20 t448.length co20) t448)∧Zz (Kd.R k62 62 wc w.heap.size (fun _=>True) (.slice Ao26 t453.length co26) t468)∧Zz (Kd.R k69 69 wc w.heap.size (fun k_=>some k_ ≠ ((.slice Ao20 t448.length co20):Value).ownBlock) (.slice Ao32 t457.length co32) t457)∧Zz (wc.heap[gb443]?=some (.cells #[(.slice A0_0 l0_0.length c0_0)] 32 (0,0)))∧Zz (wc.heap[gb452]?=some (.cells #[(.slice Ao20 t448.length co20)] 36 (0,0)))∧Zz (wc.heap[gb456]?=some (.cells #[(.slice Ao26 t453.length co26)] 24 (0,0)))∧Zz (wc.heap[gb461]?=some (.cells #[(.slice Ao32 t457.length co32)] 36 (0,0)))∧Zz (Below w.heap.size w wc))
      case first =>
       have H:=HC60.out
       clear HC60
       by_cases c70:t467<0
       ·rw [if_pos c70] at H
        exact absurd H (by cases kj10 <;> simp [laws_FnExactPressTrie.j1])
       ·rw [if_neg c70] at H
        have c70b0:decide (t467<0)=false:=decide_eq_false c70
        clear c70
        (first|rw [c70b0]|(simp only [i64_w,i32_w];rw [c70b0])|skip)
        replace H:=Option.bind_eq_some_iff.mp H
        obtain ⟨t469,A710,H⟩:=H
        replace H:(if t469=true then (laws_FnExactPressTrie.j1 kj10 t451 (t460 != t451) l0_0 t448 t457) else (laws_FnExactPressTrie.j1 kj10 t451 true l0_0 t448 t457))=some true:=H
        have A71:=Zz.mk A710
        clear A710
        by_cases c72:t469=true
        ·subst c72
         have H1:(laws_FnExactPressTrie.j1 kj10 t451 (t460 != t451) l0_0 t448 t457)=some true:=by rw [if_pos rfl] at H;exact H
         clear H
         have H:=H1
         clear H1
         have H':=Zz.mk H
         clear H
         have hnb73:=NB461_443.out
         have hnc73:=NB443_461.out
         have hnb74:=NB461_452.out
         have hnc74:=NB452_461.out
         have hnb75:=NB461_456.out
         have hnc75:=NB456_461.out
         have hcz76_0:w69.cell? ⟨gb461,0,none⟩=some (.slice Ao32 t457.length co32):=(bC BK461.out 0).trans rfl
         have hfz76_0:=bF BK461.out 0
         have hnb77:=NB452_443.out
         have hnc77:=NB443_452.out
         have hnb78:=NB452_456.out
         have hnc78:=NB456_452.out
         have hcz79_0:w69.cell? ⟨gb452,0,none⟩=some (.slice Ao20 t448.length co20):=(bC BK452.out 0).trans rfl
         have hfz79_0:=bF BK452.out 0
         go_wp2_with (first|(go_at_call 14;(with_reducible refine (laws_eqPressed.calls kj10 _ _ t457 _ _ t448 true _ ?side1 ?side2 ?side3 ?side4 A71.out).mono ?_);(case side1=>repeat (first|exact (Kd.R_reads' HO_462000.out).2.2|(with_reducible refine Kd.C_alloc ?_ _)|(with_reducible refine Kd.C_drewN ?_ _)|(with_reducible refine Kd.C_drew ?_)));(case side2=>exact (Kd.R_reads' HO_462000.out).2.1);(case side3=>repeat (first|exact (Kd.R_reads' HO_453000.out).2.2|(with_reducible refine Kd.C_alloc ?_ _)|(with_reducible refine Kd.C_drewN ?_ _)|(with_reducible refine Kd.C_drew ?_)));(case side4=>exact (Kd.R_reads' HO_453000.out).2.1);rintro e w80 ⟨rfl,hb⟩;have n0_:=Zz.mk (Kd.R_below (by (with_reducible repeat first|apply Kd.R_alloc|apply Kd.R_drewN|apply Kd.R_drew);exact HO_453000.out) hb);have n1_:=Zz.mk (Kd.R_below (by (with_reducible repeat first|apply Kd.R_alloc|apply Kd.R_drewN|apply Kd.R_drew);exact HO_457000.out) hb);have n2_:=Zz.mk (Kd.R_below (by (with_reducible repeat first|apply Kd.R_alloc|apply Kd.R_drewN|apply Kd.R_drew);exact HO_462000.out) hb);have n3_:=Zz.mk (Kd.R_below (by (with_reducible repeat first|apply Kd.R_alloc|apply Kd.R_drewN|apply Kd.R_drew);exact HO465.out) hb);have n4_:=Zz.mk (bB (g:=gb443) (o:=.cells #[.slice A0_0 l0_0.length c0_0] 32 (0,0)) (by (with_reducible repeat first|apply bN|apply bD|apply bA);exact BK443.out) hb);have n5_:=Zz.mk (bB (g:=gb452) (o:=.cells #[.slice Ao20 t448.length co20] 36 (0,0)) (by (with_reducible repeat first|apply bN|apply bD|apply bA);exact BK452.out) hb);have n6_:=Zz.mk (bB (g:=gb456) (o:=.cells #[.slice Ao26 t453.length co26] 24 (0,0)) (by (with_reducible repeat first|apply bN|apply bD|apply bA);exact BK456.out) hb);have n7_:=Zz.mk (bB (g:=gb461) (o:=.cells #[.slice Ao32 t457.length co32] 36 (0,0)) (by (with_reducible repeat first|apply bN|apply bD|apply bA);exact BK461.out) hb);have n8_:=Zz.mk (qP (by repeat (first|(with_reducible first|exact HB.out|apply qA|apply qN|apply q1_|refine qS ?_ GE443.out|refine qS ?_ GE452.out|refine qS ?_ GE456.out|refine qS ?_ GE461.out)|exact HB.out)) hb);clear HO_453000;clear HO_457000;clear HO_462000;clear HO465;clear BK443;clear BK452;clear BK456;clear BK461;clear HB;have HO_453000:=n0_;have HO_457000:=n1_;have HO_462000:=n2_;have HO465:=n3_;have BK443:=n4_;have BK452:=n5_;have BK456:=n6_;have BK461:=n7_;have HB:=n8_;clear n0_ n1_ n2_ n3_ n4_ n5_ n6_ n7_ n8_;(try clear hb);(try clear hb2);(try clear hk);(try clear hi)))
         go_meet
         case rel=>exact ⟨_,((t460 != t451)),(by first|rfl|(simp;done)|(simp [*];done)),H',⟨by have:=HJ10.out;first|omega|exact Nat.le_refl _⟩,⟨by (with_reducible repeat first|apply Kd.R_alloc|apply Kd.R_drewN|apply Kd.R_drew);exact HO_453000.out⟩,⟨by (with_reducible repeat first|apply Kd.R_alloc|apply Kd.R_drewN|apply Kd.R_drew);exact Kd.R_mono HO_457000.out (fun _ hk=>trivial)⟩,⟨by (with_reducible repeat first|apply Kd.R_alloc|apply Kd.R_drewN|apply Kd.R_drew);exact HO_462000.out⟩,⟨by (with_reducible repeat first|apply bN|apply bD|apply bA);exact BK443.out⟩,⟨by (with_reducible repeat first|apply bN|apply bD|apply bA);exact BK452.out⟩,⟨by (with_reducible repeat first|apply bN|apply bD|apply bA);exact BK456.out⟩,⟨by (with_reducible repeat first|apply bN|apply bD|apply bA);exact BK461.out⟩,⟨by repeat (first|(with_reducible first|exact HB.out|apply qA|apply qN|apply q1_|refine qS ?_ GE443.out|refine qS ?_ GE452.out|refine qS ?_ GE456.out|refine qS ?_ GE461.out)|exact HB.out)⟩⟩
        ·replace c72:=Bool.eq_false_iff.mpr c72
         subst c72
         have H1:(laws_FnExactPressTrie.j1 kj10 t451 true l0_0 t448 t457)=some true:=by rw [if_neg (show ¬ (false=true) by decide)] at H;exact H
         exact absurd H1 (by cases kj10 <;> simp [laws_FnExactPressTrie.j1])
      case rest =>
       clear HC60
       try clear c1
       try clear c2
       try clear p2
       try clear c3
       try clear c3b0
       try clear c4
       try clear c5
       try clear c6
       try clear c7
       try clear c8
       try clear c10
       try clear c11
       try clear c12
       try clear c13
       try clear c14
       try clear c21
       try clear c27
       try clear c28
       try clear c33
       try clear c34
       try clear c35
       try clear c38
       try clear c39
       try clear c40
       try clear c41
       try clear c43
       try clear c44
       try clear c47
       try clear c48
       try clear c49
       try clear c51
       try clear c52
       try clear c55
       try clear c58
       try clear c65
       try clear c66
       try clear c67
       try clear c70
       try clear c70b0
       try clear c72
       try clear c73
       try clear c74
       try clear c75
       try clear c77
       try clear c78
       try clear c81
       try clear c82
       try clear c83
       try clear c85
       try clear c86
       try clear hcz13_0
       try clear hcz15_0
       try clear hcz22_0
       try clear hcz23_0
       try clear hcz29_0
       try clear hcz36_0
       try clear hcz42_0
       try clear hcz45_0
       try clear hcz50_0
       try clear hcz53_0
       try clear hcz5_0
       try clear hcz68_0
       try clear hcz76_0
       try clear hcz79_0
       try clear hcz84_0
       try clear hcz87_0
       try clear hfz13_0
       try clear hfz15_0
       try clear hfz22_0
       try clear hfz23_0
       try clear hfz29_0
       try clear hfz36_0
       try clear hfz42_0
       try clear hfz45_0
       try clear hfz50_0
       try clear hfz53_0
       try clear hfz5_0
       try clear hfz68_0
       try clear hfz76_0
       try clear hfz79_0
       try clear hfz84_0
       try clear hfz87_0
       try clear p2
       obtain ⟨kq,x61_59,rfl,HA,HJ59,HO_453000,HO_457000,HO_462000,BK443,BK452,BK456,BK461,HB⟩:=hcut
       have hl457000_59:=(Kd.R_reads' HO_457000.out).1
       rw [hl457000_59] at HO_457000
       (try simp only [hl457000_59])
       (try simp only [hl457000_59] at BK443)
       (try simp only [hl457000_59] at BK452)
       (try simp only [hl457000_59] at BK456)
       (try simp only [hl457000_59] at BK461)
       (try simp only [hl457000_59] at HO_453000)
       (try simp only [hl457000_59] at HO_462000)
       cases kq with
       | zero=>exact absurd HA.out (by simp [laws_FnExactPressTrie.j1])
       | succ kj59 =>
        have H:=HA.out
        clear HA
        simp only [laws_FnExactPressTrie.j1] at H
        by_cases c89:x61_59=true
        ·subst c89
         have H1:(some false)=some true:=by rw [if_pos rfl] at H;exact H
         exact absurd H1 (by simp)
        ·replace c89:=Bool.eq_false_iff.mpr c89
         subst c89
         have H1:((laws_markPressed.f kj59 t457 1).bind fun bt470=>((laws_heldPressed.f kj59 bt470.2 1).bind fun t472=>(if t472<0 then (some false) else (if t472=bt470.1 then ((laws_toTrie.f kj59 l0_0).bind fun t473=>((impl_PressTrie.f kj59 t473).bind fun bt476=>((laws_eqPressed.f kj59 bt476.1 t448).bind fun t481=>(if t481=true then (laws_FnExactPressTrie.j2 kj59 bt470.1 (bt476.2 != t451) bt470.2) else (laws_FnExactPressTrie.j2 kj59 bt470.1 true bt470.2))))) else (some false)))))=some true:=by rw [if_neg (show ¬ (false=true) by decide)] at H;exact H
         clear H
         have H:=H1
         clear H1
         replace H:=Option.bind_eq_some_iff.mp H
         obtain ⟨⟨t470,t471⟩,A900,H⟩:=H
         replace H:((laws_heldPressed.f kj59 t471 1).bind fun t472=>(if t472<0 then (some false) else (if t472=t470 then ((laws_toTrie.f kj59 l0_0).bind fun t473=>((impl_PressTrie.f kj59 t473).bind fun bt476=>((laws_eqPressed.f kj59 bt476.1 t448).bind fun t481=>(if t481=true then (laws_FnExactPressTrie.j2 kj59 t470 (bt476.2 != t451) t471) else (laws_FnExactPressTrie.j2 kj59 t470 true t471))))) else (some false))))=some true:=H
         have A90:=Zz.mk A900
         clear A900
         replace H:=Option.bind_eq_some_iff.mp H
         obtain ⟨t472,A910,H⟩:=H
         replace H:(if t472<0 then (some false) else (if t472=t470 then ((laws_toTrie.f kj59 l0_0).bind fun t473=>((impl_PressTrie.f kj59 t473).bind fun bt476=>((laws_eqPressed.f kj59 bt476.1 t448).bind fun t481=>(if t481=true then (laws_FnExactPressTrie.j2 kj59 t470 (bt476.2 != t451) t471) else (laws_FnExactPressTrie.j2 kj59 t470 true t471))))) else (some false)))=some true:=H
         have A91:=Zz.mk A910
         clear A910
         by_cases c92:t472<0
         ·rw [if_pos c92] at H
          exact absurd H (by simp)
         ·rw [if_neg c92] at H
          have c92b0:decide (t472<0)=false:=decide_eq_false c92
          clear c92
          by_cases c100:t472=t470
          ·rw [if_pos c100] at H
           have c100b0:(t472 == t470)=true:=beq_iff_eq.mpr c100
           have c100b1:(t472 != t470)=false:=bne_eq_false_iff_eq.mpr c100
           clear c100
           replace H:=Option.bind_eq_some_iff.mp H
           obtain ⟨t473,A1010,H⟩:=H
           replace H:((impl_PressTrie.f kj59 t473).bind fun bt476=>((laws_eqPressed.f kj59 bt476.1 t448).bind fun t481=>(if t481=true then (laws_FnExactPressTrie.j2 kj59 t470 (bt476.2 != t451) t471) else (laws_FnExactPressTrie.j2 kj59 t470 true t471))))=some true:=H
           have A101:=Zz.mk A1010
           clear A1010
           replace H:=Option.bind_eq_some_iff.mp H
           obtain ⟨⟨t476,t479⟩,A1020,H⟩:=H
           replace H:((laws_eqPressed.f kj59 t476 t448).bind fun t481=>(if t481=true then (laws_FnExactPressTrie.j2 kj59 t470 (t479 != t451) t471) else (laws_FnExactPressTrie.j2 kj59 t470 true t471)))=some true:=H
           have A102:=Zz.mk A1020
           clear A1020
           have HC103:=Zz.mk H
           clear H
           have hnb104:=NB461_443.out
           have hnc104:=NB443_461.out
           have hnb105:=NB461_452.out
           have hnc105:=NB452_461.out
           have hnb106:=NB461_456.out
           have hnc106:=NB456_461.out
           have hcz107_0:wc.cell? ⟨gb461,0,none⟩=some (.slice Ao32 t457.length co32):=(bC BK461.out 0).trans rfl
           have hfz107_0:=bF BK461.out 0
           go_upto_region 25 with (first|((with_reducible refine gate_callee (f:=15) rfl ?_);refine goesL_ (some 64) rfl rfl Try.func15 (by kernel_rfl) rfl #[.agg #[.slice Ao32 t457.length co32],.int .i64 1] rfl (by (try simp only [List.map_toArray,List.map_cons,List.map_nil]);first|done|rfl|(simp only [List.length_drop,List.length_take];rfl)) ?_;(with_reducible refine (laws_markPressed.calls kj59 (fun k_=>some k_=(.slice Ao32 t457.length co32:Value).ownBlock) (.slice Ao32 t457.length co32) t457 1 t470 t471 w _ ?side1 ?side2 A90.out).mono ?_);(case side1=>repeat (first|(with_reducible first|exact HB.out|apply qA|apply qN|apply q1_|refine qS ?_ GE443.out|refine qS ?_ GE452.out|refine qS ?_ GE456.out|refine qS ?_ GE461.out)|exact HB.out));(case side2=>exact Kd.R_tight rfl HO_462000.out);rintro e w108 ⟨rfl,hy0,hb,hkp⟩;refine ⟨_,rfl,?_⟩;have n0_:=Zz.mk (Kd.R_mono (ok':=fun k_=>some k_ ≠ (.slice Ao32 t457.length co32:Value).ownBlock) (Kd.R_keptB (HO_453000.out) hkp (fun k_ hk_ hs_=>(hk_) hs_)) (fun k_ hk_=>hk_.1));have n1_:=Zz.mk (Kd.R_mono (ok':=fun k_=>True) (Kd.R_keptB ((Kd.R_apart' HO_457000.out (Kd.R_typed HO_462000.out) (by decide))) hkp (fun k_ hk_ hs_=>(hk_.2) hs_)) (fun k_ hk_=>trivial));have n2_:=Zz.mk (Kd.R_reok rfl hy0 (fun k_ e_=>HO_462000.out.1 k_ e_));have n3_:=Zz.mk (blk_kept (by (with_reducible repeat first|apply bN|apply bD|apply bA);exact BK443.out) hkp (fun hs_=>(fun e_=>(Kd.R_ne HO_462000.out BK443.out (by decide)) e_) hs_));have n4_:=Zz.mk (blk_kept (by (with_reducible repeat first|apply bN|apply bD|apply bA);exact BK452.out) hkp (fun hs_=>(fun e_=>(Kd.R_ne HO_462000.out BK452.out (by decide)) e_) hs_));have n5_:=Zz.mk (blk_kept (by (with_reducible repeat first|apply bN|apply bD|apply bA);exact BK456.out) hkp (fun hs_=>(fun e_=>(Kd.R_ne HO_462000.out BK456.out (by decide)) e_) hs_));have n6_:=Zz.mk (blk_kept (by (with_reducible repeat first|apply bN|apply bD|apply bA);exact BK461.out) hkp (fun hs_=>(fun e_=>(Kd.R_ne HO_462000.out BK461.out (by decide)) e_) hs_));have n7_:=Zz.mk (hb);clear HO_453000;clear HO_457000;clear HO_462000;clear BK443;clear BK452;clear BK456;clear BK461;clear HB;have HO_453000:=n0_;have HO_457000:=n1_;have HO_462000:=n2_;have BK443:=n3_;have BK452:=n4_;have BK456:=n5_;have BK461:=n6_;have HB:=n7_;clear n0_ n1_ n2_ n3_ n4_ n5_ n6_ n7_;(try clear hb);(try clear hkp);(try clear hy0);have hcz109_0:w108.cell? ⟨gb461,0,none⟩=some (.slice Ao32 t457.length co32):=(bC BK461.out 0).trans rfl;have hfz109_0:=bF BK461.out 0)|((with_reducible refine gate_callee (f:=16) rfl ?_);refine goesL_ (some 67) rfl rfl Try.func16 (by kernel_rfl) rfl #[.agg #[.slice Ao32 t471.length co32],.int .i64 1] rfl (by (try simp only [List.map_toArray,List.map_cons,List.map_nil]);first|done|(rw [show t471.length=t457.length from (Kd.R_reads' HO_462000.out).1.symm] <;> rfl)|rfl|(simp only [List.length_drop,List.length_take];rfl)) ?_;(with_reducible refine (laws_heldPressed.calls kj59 _ _ t471 1 t472 _ ?side1 ?side2 A91.out).mono ?_);(case side1=>repeat (first|exact (Kd.R_reads' HO_462000.out).2.2|(with_reducible refine Kd.C_alloc ?_ _)|(with_reducible refine Kd.C_drewN ?_ _)|(with_reducible refine Kd.C_drew ?_)));(case side2=>rw [show t471.length=t457.length from (Kd.R_reads' HO_462000.out).1.symm];exact (Kd.R_reads' HO_462000.out).2.1);rintro e w110 ⟨rfl,hb⟩;refine ⟨_,rfl,?_⟩;have n0_:=Zz.mk (Kd.R_below (by (with_reducible repeat first|apply Kd.R_alloc|apply Kd.R_drewN|apply Kd.R_drew);exact HO_453000.out) hb);have n1_:=Zz.mk (Kd.R_below (by (with_reducible repeat first|apply Kd.R_alloc|apply Kd.R_drewN|apply Kd.R_drew);exact HO_457000.out) hb);have n2_:=Zz.mk (Kd.R_below (by (with_reducible repeat first|apply Kd.R_alloc|apply Kd.R_drewN|apply Kd.R_drew);exact HO_462000.out) hb);have n3_:=Zz.mk (bB (g:=gb443) (o:=.cells #[.slice A0_0 l0_0.length c0_0] 32 (0,0)) (by (with_reducible repeat first|apply bN|apply bD|apply bA);exact BK443.out) hb);have n4_:=Zz.mk (bB (g:=gb452) (o:=.cells #[.slice Ao20 t448.length co20] 36 (0,0)) (by (with_reducible repeat first|apply bN|apply bD|apply bA);exact BK452.out) hb);have n5_:=Zz.mk (bB (g:=gb456) (o:=.cells #[.slice Ao26 t468.length co26] 24 (0,0)) (by (with_reducible repeat first|apply bN|apply bD|apply bA);exact BK456.out) hb);have n6_:=Zz.mk (bB (g:=gb461) (o:=.cells #[.slice Ao32 t457.length co32] 36 (0,0)) (by (with_reducible repeat first|apply bN|apply bD|apply bA);exact BK461.out) hb);have n7_:=Zz.mk (qP (by repeat (first|(with_reducible first|exact HB.out|apply qA|apply qN|apply q1_|refine qS ?_ GE443.out|refine qS ?_ GE452.out|refine qS ?_ GE456.out|refine qS ?_ GE461.out)|exact HB.out)) hb);clear HO_453000;clear HO_457000;clear HO_462000;clear BK443;clear BK452;clear BK456;clear BK461;clear HB;have HO_453000:=n0_;have HO_457000:=n1_;have HO_462000:=n2_;have BK443:=n3_;have BK452:=n4_;have BK456:=n5_;have BK461:=n6_;have HB:=n7_;clear n0_ n1_ n2_ n3_ n4_ n5_ n6_ n7_;(try clear hb);(try clear hb2);(try clear hk);(try clear hi);have hnb111:=NB443_452.out;have hnc111:=NB452_443.out;have hnb112:=NB443_456.out;have hnc112:=NB456_443.out;have hcz113_0:w110.cell? ⟨gb443,0,none⟩=some (.slice A0_0 l0_0.length c0_0):=(bC BK443.out 0).trans rfl;have hfz113_0:=bF BK443.out 0)|((with_reducible refine gate_callee (f:=12) rfl ?_);refine goesL_ (some 75) rfl rfl Try.func12 (by kernel_rfl) rfl #[.agg #[.slice A0_0 l0_0.length c0_0]] rfl (by (try simp only [List.map_toArray,List.map_cons,List.map_nil]);first|done|rfl|(simp only [List.length_drop,List.length_take];rfl)) ?_;(with_reducible refine (laws_toTrie.calls kj59 _ _ l0_0 t473 _ ?side1 ?side2 A101.out).mono ?_);(case side1=>repeat (first|exact (Kd.C_below HR0_0.out HB.out)|(with_reducible refine Kd.C_alloc ?_ _)|(with_reducible refine Kd.C_drewN ?_ _)|(with_reducible refine Kd.C_drew ?_)));(case side2=>exact HC0_0.out);rintro e w114 ⟨v474,rfl,ho0,hb⟩;refine ⟨_,rfl,?_⟩;have n0_:=Zz.mk (Kd.R_below (by (with_reducible repeat first|apply Kd.R_alloc|apply Kd.R_drewN|apply Kd.R_drew);exact HO_453000.out) hb);have n1_:=Zz.mk (Kd.R_elder' (by (with_reducible repeat first|apply Kd.R_alloc|apply Kd.R_drewN|apply Kd.R_drew);exact HO_457000.out) (Kd.R_base ho0) hb);have n2_:=Zz.mk (Kd.R_below (by (with_reducible repeat first|apply Kd.R_alloc|apply Kd.R_drewN|apply Kd.R_drew);exact HO_462000.out) hb);have n3_:=Zz.mk (Kd.R_lower (Kd.R_new' ho0 (Kd.R_lt (by (with_reducible repeat first|apply Kd.R_alloc|apply Kd.R_drewN|apply Kd.R_drew);exact HO_457000.out))) (qZ (by repeat (first|(with_reducible first|exact HB.out|apply qA|apply qN|apply q1_|refine qS ?_ GE443.out|refine qS ?_ GE452.out|refine qS ?_ GE456.out|refine qS ?_ GE461.out)|exact HB.out))));have n4_:=Zz.mk (bB (g:=gb443) (o:=.cells #[.slice A0_0 l0_0.length c0_0] 32 (0,0)) (by (with_reducible repeat first|apply bN|apply bD|apply bA);exact BK443.out) hb);have n5_:=Zz.mk (bB (g:=gb452) (o:=.cells #[.slice Ao20 t448.length co20] 36 (0,0)) (by (with_reducible repeat first|apply bN|apply bD|apply bA);exact BK452.out) hb);have n6_:=Zz.mk (bB (g:=gb456) (o:=.cells #[.slice Ao26 t468.length co26] 24 (0,0)) (by (with_reducible repeat first|apply bN|apply bD|apply bA);exact BK456.out) hb);have n7_:=Zz.mk (bB (g:=gb461) (o:=.cells #[.slice Ao32 t457.length co32] 36 (0,0)) (by (with_reducible repeat first|apply bN|apply bD|apply bA);exact BK461.out) hb);have n8_:=Zz.mk (qP (by repeat (first|(with_reducible first|exact HB.out|apply qA|apply qN|apply q1_|refine qS ?_ GE443.out|refine qS ?_ GE452.out|refine qS ?_ GE456.out|refine qS ?_ GE461.out)|exact HB.out)) hb);clear HO_453000;clear HO_457000;clear HO_462000;clear BK443;clear BK452;clear BK456;clear BK461;clear HB;have HO_453000:=n0_;have HO_457000:=n1_;have HO_462000:=n2_;have HO475:=n3_;have BK443:=n4_;have BK452:=n5_;have BK456:=n6_;have BK461:=n7_;have HB:=n8_;clear n0_ n1_ n2_ n3_ n4_ n5_ n6_ n7_ n8_;(try clear hb);(try clear hb2);(try clear hk);(try clear hi);(try clear ho0);obtain ⟨Ao115,co115,eo115⟩:=Kd.R_slice HO475.out;subst eo115)|((with_reducible refine gate_callee (f:=13) rfl ?_);refine goesL_ (some 76) rfl rfl Try.func13 (by kernel_rfl) rfl #[.agg #[.slice Ao115 t473.length co115]] rfl (by (try simp only [List.map_toArray,List.map_cons,List.map_nil]);first|done|rfl|(simp only [List.length_drop,List.length_take];rfl)) ?_;(with_reducible refine (impl_PressTrie.calls kj59 _ _ t473 t476 t479 _ ?side1 ?side2 A102.out).mono ?_);(case side1=>repeat (first|exact (Kd.R_reads' HO475.out).2.2|(with_reducible refine Kd.C_alloc ?_ _)|(with_reducible refine Kd.C_drewN ?_ _)|(with_reducible refine Kd.C_drew ?_)));(case side2=>exact (Kd.R_reads' HO475.out).2.1);rintro e w116 ⟨v477,rfl,ho0,hb⟩;refine ⟨_,rfl,?_⟩;have n0_:=Zz.mk (Kd.R_elder' (by (with_reducible repeat first|apply Kd.R_alloc|apply Kd.R_drewN|apply Kd.R_drew);exact HO_453000.out) (Kd.R_base ho0) hb);have n1_:=Zz.mk (Kd.R_below (by (with_reducible repeat first|apply Kd.R_alloc|apply Kd.R_drewN|apply Kd.R_drew);exact HO_457000.out) hb);have n2_:=Zz.mk (Kd.R_elder' (by (with_reducible repeat first|apply Kd.R_alloc|apply Kd.R_drewN|apply Kd.R_drew);exact HO_462000.out) (Kd.R_base ho0) hb);have n3_:=Zz.mk (Kd.R_below (by (with_reducible repeat first|apply Kd.R_alloc|apply Kd.R_drewN|apply Kd.R_drew);exact HO475.out) hb);have n4_:=Zz.mk (Kd.R_lower (Kd.R_new' (Kd.R_new' ho0 (Kd.R_lt (by (with_reducible repeat first|apply Kd.R_alloc|apply Kd.R_drewN|apply Kd.R_drew);exact HO_453000.out))) (Kd.R_lt (by (with_reducible repeat first|apply Kd.R_alloc|apply Kd.R_drewN|apply Kd.R_drew);exact HO_462000.out))) (qZ (by repeat (first|(with_reducible first|exact HB.out|apply qA|apply qN|apply q1_|refine qS ?_ GE443.out|refine qS ?_ GE452.out|refine qS ?_ GE456.out|refine qS ?_ GE461.out)|exact HB.out))));have n5_:=Zz.mk (bB (g:=gb443) (o:=.cells #[.slice A0_0 l0_0.length c0_0] 32 (0,0)) (by (with_reducible repeat first|apply bN|apply bD|apply bA);exact BK443.out) hb);have n6_:=Zz.mk (bB (g:=gb452) (o:=.cells #[.slice Ao20 t448.length co20] 36 (0,0)) (by (with_reducible repeat first|apply bN|apply bD|apply bA);exact BK452.out) hb);have n7_:=Zz.mk (bB (g:=gb456) (o:=.cells #[.slice Ao26 t468.length co26] 24 (0,0)) (by (with_reducible repeat first|apply bN|apply bD|apply bA);exact BK456.out) hb);have n8_:=Zz.mk (bB (g:=gb461) (o:=.cells #[.slice Ao32 t457.length co32] 36 (0,0)) (by (with_reducible repeat first|apply bN|apply bD|apply bA);exact BK461.out) hb);have n9_:=Zz.mk (qP (by repeat (first|(with_reducible first|exact HB.out|apply qA|apply qN|apply q1_|refine qS ?_ GE443.out|refine qS ?_ GE452.out|refine qS ?_ GE456.out|refine qS ?_ GE461.out)|exact HB.out)) hb);clear HO_453000;clear HO_457000;clear HO_462000;clear HO475;clear BK443;clear BK452;clear BK456;clear BK461;clear HB;have HO_453000:=n0_;have HO_457000:=n1_;have HO_462000:=n2_;have HO475:=n3_;have HO478:=n4_;have BK443:=n5_;have BK452:=n6_;have BK456:=n7_;have BK461:=n8_;have HB:=n9_;clear n0_ n1_ n2_ n3_ n4_ n5_ n6_ n7_ n8_ n9_;(try clear hb);(try clear hb2);(try clear hk);(try clear hi);(try clear ho0))|((with_reducible refine gate_dst (N:=12) rfl ?_);refine box_event ?hg (N:=12) ?hd (cs:=#[.slice none 0 0]) (t:=36) ?hr ?_;(case hd=>rfl);(case hg=>rfl);(case hr=>first|(go_simp;done)|(go_simp;rfl));intro gb480 hg w117 hbox hb;have n0_:=Zz.mk (Kd.R_below (by (with_reducible repeat first|apply Kd.R_alloc|apply Kd.R_drewN|apply Kd.R_drew);exact HO_453000.out) hb);have n1_:=Zz.mk (Kd.R_below (by (with_reducible repeat first|apply Kd.R_alloc|apply Kd.R_drewN|apply Kd.R_drew);exact HO_457000.out) hb);have n2_:=Zz.mk (Kd.R_below (by (with_reducible repeat first|apply Kd.R_alloc|apply Kd.R_drewN|apply Kd.R_drew);exact HO_462000.out) hb);have n3_:=Zz.mk (Kd.R_below (by (with_reducible repeat first|apply Kd.R_alloc|apply Kd.R_drewN|apply Kd.R_drew);exact HO475.out) hb);have n4_:=Zz.mk (Kd.R_below (by (with_reducible repeat first|apply Kd.R_alloc|apply Kd.R_drewN|apply Kd.R_drew);exact HO478.out) hb);have n5_:=Zz.mk (bB (g:=gb443) (o:=.cells #[.slice A0_0 l0_0.length c0_0] 32 (0,0)) (by (with_reducible repeat first|apply bN|apply bD|apply bA);exact BK443.out) hb);have n6_:=Zz.mk (bB (g:=gb452) (o:=.cells #[.slice Ao20 t448.length co20] 36 (0,0)) (by (with_reducible repeat first|apply bN|apply bD|apply bA);exact BK452.out) hb);have n7_:=Zz.mk (bB (g:=gb456) (o:=.cells #[.slice Ao26 t468.length co26] 24 (0,0)) (by (with_reducible repeat first|apply bN|apply bD|apply bA);exact BK456.out) hb);have n8_:=Zz.mk (bB (g:=gb461) (o:=.cells #[.slice Ao32 t457.length co32] 36 (0,0)) (by (with_reducible repeat first|apply bN|apply bD|apply bA);exact BK461.out) hb);have n9_:=Zz.mk (qP (by repeat (first|(with_reducible first|exact HB.out|apply qA|apply qN|apply q1_|refine qS ?_ GE443.out|refine qS ?_ GE452.out|refine qS ?_ GE456.out|refine qS ?_ GE461.out)|exact HB.out)) hb);have n10_:=Zz.mk (hbox);have n11_:=Zz.mk ((by rw [hg];exact (qZ (by repeat (first|(with_reducible first|exact HB.out|apply qA|apply qN|apply q1_|refine qS ?_ GE443.out|refine qS ?_ GE452.out|refine qS ?_ GE456.out|refine qS ?_ GE461.out)|exact HB.out))):w.heap.size≤gb480));have n12_:=Zz.mk ((by rw [hg];exact (qZ (by repeat (first|(with_reducible first|exact HB.out|apply qA|apply qN|apply q1_|refine qS ?_ GE443.out|refine qS ?_ GE452.out|refine qS ?_ GE456.out|refine qS ?_ GE461.out)|exact HB.out))):w.heap.size≤gb480));have n13_:=Zz.mk ((by rw [hg];exact Nat.ne_of_lt (blk_lt (g:=gb443) (o:=.cells #[.slice A0_0 l0_0.length c0_0] 32 (0,0)) (by (with_reducible repeat first|apply bN|apply bD|apply bA);exact BK443.out)):gb443 ≠ gb480));have n14_:=Zz.mk ((by rw [hg];exact Nat.ne_of_gt (blk_lt (g:=gb443) (o:=.cells #[.slice A0_0 l0_0.length c0_0] 32 (0,0)) (by (with_reducible repeat first|apply bN|apply bD|apply bA);exact BK443.out)):gb480 ≠ gb443));have n15_:=Zz.mk ((by rw [hg];exact Nat.ne_of_lt (blk_lt (g:=gb452) (o:=.cells #[.slice Ao20 t448.length co20] 36 (0,0)) (by (with_reducible repeat first|apply bN|apply bD|apply bA);exact BK452.out)):gb452 ≠ gb480));have n16_:=Zz.mk ((by rw [hg];exact Nat.ne_of_gt (blk_lt (g:=gb452) (o:=.cells #[.slice Ao20 t448.length co20] 36 (0,0)) (by (with_reducible repeat first|apply bN|apply bD|apply bA);exact BK452.out)):gb480 ≠ gb452));have n17_:=Zz.mk ((by rw [hg];exact Nat.ne_of_lt (blk_lt (g:=gb456) (o:=.cells #[.slice Ao26 t468.length co26] 24 (0,0)) (by (with_reducible repeat first|apply bN|apply bD|apply bA);exact BK456.out)):gb456 ≠ gb480));have n18_:=Zz.mk ((by rw [hg];exact Nat.ne_of_gt (blk_lt (g:=gb456) (o:=.cells #[.slice Ao26 t468.length co26] 24 (0,0)) (by (with_reducible repeat first|apply bN|apply bD|apply bA);exact BK456.out)):gb480 ≠ gb456));have n19_:=Zz.mk ((by rw [hg];exact Nat.ne_of_lt (blk_lt (g:=gb461) (o:=.cells #[.slice Ao32 t457.length co32] 36 (0,0)) (by (with_reducible repeat first|apply bN|apply bD|apply bA);exact BK461.out)):gb461 ≠ gb480));have n20_:=Zz.mk ((by rw [hg];exact Nat.ne_of_gt (blk_lt (g:=gb461) (o:=.cells #[.slice Ao32 t457.length co32] 36 (0,0)) (by (with_reducible repeat first|apply bN|apply bD|apply bA);exact BK461.out)):gb480 ≠ gb461));clear HO_453000;clear HO_457000;clear HO_462000;clear HO475;clear HO478;clear BK443;clear BK452;clear BK456;clear BK461;clear HB;have HO_453000:=n0_;have HO_457000:=n1_;have HO_462000:=n2_;have HO475:=n3_;have HO478:=n4_;have BK443:=n5_;have BK452:=n6_;have BK456:=n7_;have BK461:=n8_;have HB:=n9_;have BK480:=n10_;have GW480:=n11_;have GE480:=n12_;have NB443_480:=n13_;have NB480_443:=n14_;have NB452_480:=n15_;have NB480_452:=n16_;have NB456_480:=n17_;have NB480_456:=n18_;have NB461_480:=n19_;have NB480_461:=n20_;clear n0_ n1_ n2_ n3_ n4_ n5_ n6_ n7_ n8_ n9_ n10_ n11_ n12_ n13_ n14_ n15_ n16_ n17_ n18_ n19_ n20_;clear hb hbox hg;obtain ⟨Ao118,co118,eo118⟩:=Kd.R_slice HO478.out;subst eo118;have hnb119:=NB480_443.out;have hnc119:=NB443_480.out;have hnb120:=NB480_452.out;have hnc120:=NB452_480.out;have hnb121:=NB480_456.out;have hnc121:=NB456_480.out;have hnb122:=NB480_461.out;have hnc122:=NB461_480.out;have hcz123_0:w117.cell? ⟨gb480,0,none⟩=some (.slice none 0 0):=(bC BK480.out 0).trans rfl;have hfz123_0:=bF BK480.out 0))
           (try simp only [Act.put,List.setIfInBounds_toArray,List.set_cons_zero,List.set_cons_succ])
           go_cut [87] (fun v87 wc=>∃ (kq:Nat) (x87_102:Bool),v87=.bool x87_102∧Zz (laws_FnExactPressTrie.j2 kq t470 x87_102 t471=some true)∧Zz (kq≤kj59)∧Zz (Kd.R k69 69 wc w.heap.size (fun k_=>some k_ ≠ ((.slice Ao32 t457.length co32):Value).ownBlock∧some k_ ≠ ((.slice Ao118 t476.length co118):Value).ownBlock) (.slice Ao20 t448.length co20) t448)∧Zz (Kd.R k62 62 wc w.heap.size (fun _=>True) (.slice Ao26 t468.length co26) t468)∧Zz (Kd.R k69 69 wc w.heap.size (fun k_=>some k_ ≠ ((.slice Ao20 t448.length co20):Value).ownBlock∧some k_ ≠ ((.slice Ao118 t476.length co118):Value).ownBlock) (.slice Ao32 t457.length co32) t471)∧Zz (Kd.R k69 69 wc w.heap.size (fun k_=>some k_ ≠ ((.slice Ao20 t448.length co20):Value).ownBlock∧some k_ ≠ ((.slice Ao32 t457.length co32):Value).ownBlock) (.slice Ao118 t476.length co118) t476)∧Zz (wc.heap[gb443]?=some (.cells #[(.slice A0_0 l0_0.length c0_0)] 32 (0,0)))∧Zz (wc.heap[gb452]?=some (.cells #[(.slice Ao20 t448.length co20)] 36 (0,0)))∧Zz (wc.heap[gb456]?=some (.cells #[(.slice Ao26 t468.length co26)] 24 (0,0)))∧Zz (wc.heap[gb461]?=some (.cells #[(.slice Ao32 t457.length co32)] 36 (0,0)))∧Zz (wc.heap[gb480]?=some (.cells #[(.slice Ao118 t476.length co118)] 36 (0,0)))∧Zz (Below w.heap.size w wc))
           case first =>
            have H:=HC103.out
            clear HC103
            replace H:=Option.bind_eq_some_iff.mp H
            obtain ⟨t481,A1240,H⟩:=H
            replace H:(if t481=true then (laws_FnExactPressTrie.j2 kj59 t470 (t479 != t451) t471) else (laws_FnExactPressTrie.j2 kj59 t470 true t471))=some true:=H
            have A124:=Zz.mk A1240
            clear A1240
            by_cases c125:t481=true
            ·subst c125
             have H1:(laws_FnExactPressTrie.j2 kj59 t470 (t479 != t451) t471)=some true:=by rw [if_pos rfl] at H;exact H
             clear H
             have H:=H1
             clear H1
             have H':=Zz.mk H
             clear H
             have hnb126:=NB480_443.out
             have hnc126:=NB443_480.out
             have hnb127:=NB480_452.out
             have hnc127:=NB452_480.out
             have hnb128:=NB480_456.out
             have hnc128:=NB456_480.out
             have hnb129:=NB480_461.out
             have hnc129:=NB461_480.out
             have hcz130_0:w117.cell? ⟨gb480,0,none⟩=some (.slice none 0 0):=(bC BK480.out 0).trans rfl
             have hfz130_0:=bF BK480.out 0
             have hnb131:=NB452_443.out
             have hnc131:=NB443_452.out
             have hnb132:=NB452_456.out
             have hnc132:=NB456_452.out
             have hnb133:=NB452_461.out
             have hnc133:=NB461_452.out
             have hcz134_0:w117.cell? ⟨gb452,0,none⟩=some (.slice Ao20 t448.length co20):=(bC BK452.out 0).trans rfl
             have hfz134_0:=bF BK452.out 0
             go_wp2_with (first|((with_reducible refine gate_callee (f:=14) rfl ?_);refine goesL_ (some 81) rfl rfl Try.func14 (by kernel_rfl) rfl #[.agg #[.slice Ao118 t476.length co118],.agg #[.slice Ao20 t448.length co20]] rfl (by (try simp only [List.map_toArray,List.map_cons,List.map_nil]);first|done|rfl|(simp only [List.length_drop,List.length_take];rfl)) ?_;(with_reducible refine (laws_eqPressed.calls kj59 _ _ t476 _ _ t448 true _ ?side1 ?side2 ?side3 ?side4 A124.out).mono ?_);(case side1=>refine (Kd.R_reads' (e:=69) (base:=w.heap.size) (ok:=fun k_=>((True∧some k_ ≠ (.slice Ao20 t448.length co20:Value).ownBlock)∧some k_ ≠ (.slice Ao32 t457.length co32:Value).ownBlock)) (n:=t476.length) (c:=co118) ?_).2.2;exact (by (with_reducible repeat first|apply Kd.R_alloc|apply Kd.R_drewN|apply Kd.R_drew);exact (Kd.R_mono (R_same_ (Kd.R_far (p:=⟨gb480,0,none⟩) (Kd.R_types HO478.out BK480.out (by decide)) (fun _ hk=>hk.2) (.slice Ao118 t476.length co118)) rfl) (fun _ h_=>h_.1))));(case side2=>exact (Kd.R_reads' HO478.out).2.1);(case side3=>refine (Kd.R_reads' (e:=69) (base:=w.heap.size) (ok:=fun k_=>(some k_ ≠ (.slice Ao32 t457.length co32:Value).ownBlock∧some k_ ≠ (.slice Ao118 t476.length co118:Value).ownBlock)) (n:=t448.length) (c:=co20) ?_).2.2;exact (by (with_reducible repeat first|apply Kd.R_alloc|apply Kd.R_drewN|apply Kd.R_drew);exact (Kd.R_mono (R_same_ (Kd.R_far (p:=⟨gb480,0,none⟩) (Kd.R_types HO_453000.out BK480.out (by decide)) (fun _ hk=>hk.2) (.slice Ao118 t476.length co118)) rfl) (fun _ h_=>h_.1))));(case side4=>exact (Kd.R_reads' HO_453000.out).2.1);rintro e w135 ⟨rfl,hb⟩;refine ⟨_,rfl,?_⟩;have n0_:=Zz.mk (Kd.R_below (by (with_reducible repeat first|apply Kd.R_alloc|apply Kd.R_drewN|apply Kd.R_drew);exact (Kd.R_mono (R_same_ (Kd.R_far (p:=⟨gb480,0,none⟩) (Kd.R_types HO_453000.out BK480.out (by decide)) (fun _ hk=>hk.2) (.slice Ao118 t476.length co118)) rfl) (fun _ h_=>h_.1))) hb);have n1_:=Zz.mk (Kd.R_below (by (with_reducible repeat first|apply Kd.R_alloc|apply Kd.R_drewN|apply Kd.R_drew);exact (Kd.R_mono (R_same_ (Kd.R_far (p:=⟨gb480,0,none⟩) (Kd.R_types HO_457000.out BK480.out (by decide)) (fun _ hk=>hk.2) (.slice Ao118 t476.length co118)) rfl) (fun _ h_=>h_.1))) hb);have n2_:=Zz.mk (Kd.R_below (by (with_reducible repeat first|apply Kd.R_alloc|apply Kd.R_drewN|apply Kd.R_drew);exact (Kd.R_mono (R_same_ (Kd.R_far (p:=⟨gb480,0,none⟩) (Kd.R_types HO_462000.out BK480.out (by decide)) (fun _ hk=>hk.2) (.slice Ao118 t476.length co118)) rfl) (fun _ h_=>h_.1))) hb);have n3_:=Zz.mk (Kd.R_below (by (with_reducible repeat first|apply Kd.R_alloc|apply Kd.R_drewN|apply Kd.R_drew);exact (Kd.R_mono (R_same_ (Kd.R_far (p:=⟨gb480,0,none⟩) (Kd.R_types HO475.out BK480.out (by decide)) (fun _ hk=>hk.2) (.slice Ao118 t476.length co118)) rfl) (fun _ h_=>h_.1))) hb);have n4_:=Zz.mk (Kd.R_below (by (with_reducible repeat first|apply Kd.R_alloc|apply Kd.R_drewN|apply Kd.R_drew);exact (Kd.R_mono (R_same_ (Kd.R_far (p:=⟨gb480,0,none⟩) (Kd.R_types HO478.out BK480.out (by decide)) (fun _ hk=>hk.2) (.slice Ao118 t476.length co118)) rfl) (fun _ h_=>h_.1))) hb);have n5_:=Zz.mk (bB (g:=gb443) (o:=.cells #[.slice A0_0 l0_0.length c0_0] 32 (0,0)) (by (with_reducible repeat first|apply bN|apply bD|apply bA);refine blk_far ?_ NB443_480.out _;(with_reducible repeat first|apply bN|apply bD|apply bA);exact BK443.out) hb);have n6_:=Zz.mk (bB (g:=gb452) (o:=.cells #[.slice Ao20 t448.length co20] 36 (0,0)) (by (with_reducible repeat first|apply bN|apply bD|apply bA);refine blk_far ?_ NB452_480.out _;(with_reducible repeat first|apply bN|apply bD|apply bA);exact BK452.out) hb);have n7_:=Zz.mk (bB (g:=gb456) (o:=.cells #[.slice Ao26 t468.length co26] 24 (0,0)) (by (with_reducible repeat first|apply bN|apply bD|apply bA);refine blk_far ?_ NB456_480.out _;(with_reducible repeat first|apply bN|apply bD|apply bA);exact BK456.out) hb);have n8_:=Zz.mk (bB (g:=gb461) (o:=.cells #[.slice Ao32 t457.length co32] 36 (0,0)) (by (with_reducible repeat first|apply bN|apply bD|apply bA);refine blk_far ?_ NB461_480.out _;(with_reducible repeat first|apply bN|apply bD|apply bA);exact BK461.out) hb);have n9_:=Zz.mk (bB (g:=gb480) (o:=.cells #[.slice Ao118 t476.length co118] 36 (0,0)) (by (with_reducible repeat first|apply bN|apply bD|apply bA);refine blk_put (cs:=#[.slice none 0 0]) ?_ 0 _ rfl;(with_reducible repeat first|apply bN|apply bD|apply bA);exact BK480.out) hb);have n10_:=Zz.mk (qP (by repeat (first|(with_reducible first|exact HB.out|apply qA|apply qN|apply q1_|refine qS ?_ GE443.out|refine qS ?_ GE452.out|refine qS ?_ GE456.out|refine qS ?_ GE461.out|refine qS ?_ GE480.out)|exact HB.out)) hb);clear HO_453000;clear HO_457000;clear HO_462000;clear HO475;clear HO478;clear BK443;clear BK452;clear BK456;clear BK461;clear BK480;clear HB;have HO_453000:=n0_;have HO_457000:=n1_;have HO_462000:=n2_;have HO475:=n3_;have HO478:=n4_;have BK443:=n5_;have BK452:=n6_;have BK456:=n7_;have BK461:=n8_;have BK480:=n9_;have HB:=n10_;clear n0_ n1_ n2_ n3_ n4_ n5_ n6_ n7_ n8_ n9_ n10_;(try clear hb);(try clear hb2);(try clear hk);(try clear hi)))
             go_meet
             case rel=>exact ⟨_,((t479 != t451)),(by first|rfl|(simp;done)|(simp [*];done)),H',⟨by have:=HJ10.out;have:=HJ59.out;first|omega|exact Nat.le_refl _⟩,⟨by (try simp only [hl457000_59]);(with_reducible repeat first|apply Kd.R_alloc|apply Kd.R_drewN|apply Kd.R_drew);exact HO_453000.out⟩,⟨by (try simp only [hl457000_59]);(with_reducible repeat first|apply Kd.R_alloc|apply Kd.R_drewN|apply Kd.R_drew);exact Kd.R_mono HO_457000.out (fun _ hk=>trivial)⟩,⟨by (try simp only [hl457000_59]);(with_reducible repeat first|apply Kd.R_alloc|apply Kd.R_drewN|apply Kd.R_drew);exact HO_462000.out⟩,⟨by (try simp only [hl457000_59]);(with_reducible repeat first|apply Kd.R_alloc|apply Kd.R_drewN|apply Kd.R_drew);exact Kd.R_mono HO478.out (fun _ hk=>⟨hk.1.2,hk.2⟩)⟩,⟨by (try simp only [hl457000_59]);(with_reducible repeat first|apply bN|apply bD|apply bA);exact BK443.out⟩,⟨by (try simp only [hl457000_59]);(with_reducible repeat first|apply bN|apply bD|apply bA);exact BK452.out⟩,⟨by (try simp only [hl457000_59]);(with_reducible repeat first|apply bN|apply bD|apply bA);exact BK456.out⟩,⟨by (try simp only [hl457000_59]);(with_reducible repeat first|apply bN|apply bD|apply bA);exact BK461.out⟩,⟨by (try simp only [hl457000_59]);(with_reducible repeat first|apply bN|apply bD|apply bA);exact BK480.out⟩,⟨by repeat (first|(with_reducible first|exact HB.out|apply qA|apply qN|apply q1_|refine qS ?_ GE443.out|refine qS ?_ GE452.out|refine qS ?_ GE456.out|refine qS ?_ GE461.out|refine qS ?_ GE480.out)|exact HB.out)⟩⟩
            ·replace c125:=Bool.eq_false_iff.mpr c125
             subst c125
             have H1:(laws_FnExactPressTrie.j2 kj59 t470 true t471)=some true:=by rw [if_neg (show ¬ (false=true) by decide)] at H;exact H
             exact absurd H1 (by cases kj59 <;> simp [laws_FnExactPressTrie.j2])
           case rest =>
            clear HC103
            try clear c1
            try clear c2
            try clear p2
            try clear c3
            try clear c3b0
            try clear c4
            try clear c5
            try clear c6
            try clear c7
            try clear c8
            try clear c9
            try clear c10
            try clear c11
            try clear c12
            try clear c13
            try clear c14
            try clear c15
            try clear c16
            try clear c21
            try clear c27
            try clear c28
            try clear c33
            try clear c34
            try clear c35
            try clear c38
            try clear c39
            try clear c40
            try clear c41
            try clear c43
            try clear c44
            try clear c47
            try clear c48
            try clear c49
            try clear c51
            try clear c52
            try clear c55
            try clear c58
            try clear c65
            try clear c66
            try clear c67
            try clear c70
            try clear c70b0
            try clear c72
            try clear c73
            try clear c74
            try clear c75
            try clear c77
            try clear c78
            try clear c81
            try clear c82
            try clear c83
            try clear c85
            try clear c86
            try clear c89
            try clear c92
            try clear c92b0
            try clear c93
            try clear c94
            try clear c95
            try clear c100
            try clear c100b0
            try clear c100b1
            try clear c104
            try clear c105
            try clear c106
            try clear c111
            try clear c112
            try clear c119
            try clear c120
            try clear c121
            try clear c122
            try clear c125
            try clear c126
            try clear c127
            try clear c128
            try clear c129
            try clear c131
            try clear c132
            try clear c133
            try clear c136
            try clear c137
            try clear c138
            try clear c139
            try clear c141
            try clear c142
            try clear c143
            try clear hcz107_0
            try clear hcz109_0
            try clear hcz113_0
            try clear hcz123_0
            try clear hcz130_0
            try clear hcz134_0
            try clear hcz13_0
            try clear hcz140_0
            try clear hcz144_0
            try clear hcz15_0
            try clear hcz22_0
            try clear hcz23_0
            try clear hcz29_0
            try clear hcz36_0
            try clear hcz42_0
            try clear hcz45_0
            try clear hcz50_0
            try clear hcz53_0
            try clear hcz5_0
            try clear hcz68_0
            try clear hcz76_0
            try clear hcz79_0
            try clear hcz84_0
            try clear hcz87_0
            try clear hcz96_0
            try clear hcz98_0
            try clear hfz107_0
            try clear hfz109_0
            try clear hfz113_0
            try clear hfz123_0
            try clear hfz130_0
            try clear hfz134_0
            try clear hfz13_0
            try clear hfz140_0
            try clear hfz144_0
            try clear hfz15_0
            try clear hfz22_0
            try clear hfz23_0
            try clear hfz29_0
            try clear hfz36_0
            try clear hfz42_0
            try clear hfz45_0
            try clear hfz50_0
            try clear hfz53_0
            try clear hfz5_0
            try clear hfz68_0
            try clear hfz76_0
            try clear hfz79_0
            try clear hfz84_0
            try clear hfz87_0
            try clear hfz96_0
            try clear hfz98_0
            try clear p2
            obtain ⟨kq,x87_102,rfl,HA,HJ102,HO_453000,HO_457000,HO_462000,HO_481000,BK443,BK452,BK456,BK461,BK480,HB⟩:=hcut
            have hl462000_102:=(Kd.R_reads' HO_462000.out).1
            rw [hl462000_102] at HO_462000
            (try simp only [hl462000_102])
            (try simp only [hl462000_102] at BK443)
            (try simp only [hl462000_102] at BK452)
            (try simp only [hl462000_102] at BK456)
            (try simp only [hl462000_102] at BK461)
            (try simp only [hl462000_102] at BK480)
            (try simp only [hl462000_102] at HO_453000)
            (try simp only [hl462000_102] at HO_457000)
            (try simp only [hl462000_102] at HO_481000)
            cases kq with
            | zero=>exact absurd HA.out (by simp [laws_FnExactPressTrie.j2])
            | succ kj102 =>
             have H:=HA.out
             clear HA
             simp only [laws_FnExactPressTrie.j2] at H
             by_cases c146:x87_102=true
             ·subst c146
              have H1:(some false)=some true:=by rw [if_pos rfl] at H;exact H
              exact absurd H1 (by simp)
             ·replace c146:=Bool.eq_false_iff.mpr c146
              subst c146
              have H1:((laws_heldPressed.f kj102 t471 1).bind fun t482=>(if t482<0 then (some false) else (if t482=t470 then (some true) else (some false))))=some true:=by rw [if_neg (show ¬ (false=true) by decide)] at H;exact H
              clear H
              have H:=H1
              clear H1
              replace H:=Option.bind_eq_some_iff.mp H
              obtain ⟨t482,A1470,H⟩:=H
              replace H:(if t482<0 then (some false) else (if t482=t470 then (some true) else (some false)))=some true:=H
              have A147:=Zz.mk A1470
              clear A1470
              by_cases c148:t482<0
              ·rw [if_pos c148] at H
               exact absurd H (by simp)
              ·rw [if_neg c148] at H
               have c148b0:decide (t482<0)=false:=decide_eq_false c148
               clear c148
               by_cases c155:t482=t470
               ·rw [if_pos c155] at H
                have c155b0:(t482 == t470)=true:=beq_iff_eq.mpr c155
                have c155b1:(t482 != t470)=false:=bne_eq_false_iff_eq.mpr c155
                clear c155
                (first|(obtain rfl:=Option.some.inj H)|(have hH_:=Option.some.inj H;try simp only [hH_]))
                have hnb156:=NB461_443.out
                have hnc156:=NB443_461.out
                have hnb157:=NB461_452.out
                have hnc157:=NB452_461.out
                have hnb158:=NB461_456.out
                have hnc158:=NB456_461.out
                have hnb159:=NB461_480.out
                have hnc159:=NB480_461.out
                have hcz160_0:wc.cell? ⟨gb461,0,none⟩=some (.slice Ao32 t471.length co32):=(bC BK461.out 0).trans rfl
                have hfz160_0:=bF BK461.out 0
                go_wp2_with (first|((with_reducible refine gate_callee (f:=16) rfl ?_);refine goesL_ (some 90) rfl rfl Try.func16 (by kernel_rfl) rfl #[.agg #[.slice Ao32 t471.length co32],.int .i64 1] rfl (by (try simp only [List.map_toArray,List.map_cons,List.map_nil]);first|done|rfl|(simp only [List.length_drop,List.length_take];rfl)) ?_;(with_reducible refine (laws_heldPressed.calls kj102 _ _ t471 1 t482 _ ?side1 ?side2 A147.out).mono ?_);(case side1=>repeat (first|exact (Kd.R_reads' HO_462000.out).2.2|(with_reducible refine Kd.C_alloc ?_ _)|(with_reducible refine Kd.C_drewN ?_ _)|(with_reducible refine Kd.C_drew ?_)));(case side2=>exact (Kd.R_reads' HO_462000.out).2.1);rintro e w161 ⟨rfl,hb⟩;refine ⟨_,rfl,?_⟩;have n0_:=Zz.mk (Kd.R_below (by (with_reducible repeat first|apply Kd.R_alloc|apply Kd.R_drewN|apply Kd.R_drew);exact HO_453000.out) hb);have n1_:=Zz.mk (Kd.R_below (by (with_reducible repeat first|apply Kd.R_alloc|apply Kd.R_drewN|apply Kd.R_drew);exact HO_457000.out) hb);have n2_:=Zz.mk (Kd.R_below (by (with_reducible repeat first|apply Kd.R_alloc|apply Kd.R_drewN|apply Kd.R_drew);exact HO_462000.out) hb);have n3_:=Zz.mk (Kd.R_below (by (with_reducible repeat first|apply Kd.R_alloc|apply Kd.R_drewN|apply Kd.R_drew);exact HO_481000.out) hb);have n4_:=Zz.mk (bB (g:=gb443) (o:=.cells #[.slice A0_0 l0_0.length c0_0] 32 (0,0)) (by (with_reducible repeat first|apply bN|apply bD|apply bA);exact BK443.out) hb);have n5_:=Zz.mk (bB (g:=gb452) (o:=.cells #[.slice Ao20 t448.length co20] 36 (0,0)) (by (with_reducible repeat first|apply bN|apply bD|apply bA);exact BK452.out) hb);have n6_:=Zz.mk (bB (g:=gb456) (o:=.cells #[.slice Ao26 t468.length co26] 24 (0,0)) (by (with_reducible repeat first|apply bN|apply bD|apply bA);exact BK456.out) hb);have n7_:=Zz.mk (bB (g:=gb461) (o:=.cells #[.slice Ao32 t471.length co32] 36 (0,0)) (by (with_reducible repeat first|apply bN|apply bD|apply bA);exact BK461.out) hb);have n8_:=Zz.mk (bB (g:=gb480) (o:=.cells #[.slice Ao118 t476.length co118] 36 (0,0)) (by (with_reducible repeat first|apply bN|apply bD|apply bA);exact BK480.out) hb);have n9_:=Zz.mk (qP (by repeat (first|(with_reducible first|exact HB.out|apply qA|apply qN|apply q1_|refine qS ?_ GE443.out|refine qS ?_ GE452.out|refine qS ?_ GE456.out|refine qS ?_ GE461.out|refine qS ?_ GE480.out)|exact HB.out)) hb);clear HO_453000;clear HO_457000;clear HO_462000;clear HO_481000;clear BK443;clear BK452;clear BK456;clear BK461;clear BK480;clear HB;have HO_453000:=n0_;have HO_457000:=n1_;have HO_462000:=n2_;have HO_481000:=n3_;have BK443:=n4_;have BK452:=n5_;have BK456:=n6_;have BK461:=n7_;have BK480:=n8_;have HB:=n9_;clear n0_ n1_ n2_ n3_ n4_ n5_ n6_ n7_ n8_ n9_;(try clear hb);(try clear hb2);(try clear hk);(try clear hi)))
                go_ret
                exact ⟨by first|rfl|(simp [errW_none,errW_some] <;> rfl)|(simp [*,errW_none,errW_some] <;> rfl),by repeat (first|(with_reducible first|exact HB.out|apply qA|apply qN|apply q1_|refine qS ?_ GE443.out|refine qS ?_ GE452.out|refine qS ?_ GE456.out|refine qS ?_ GE461.out|refine qS ?_ GE480.out)|exact HB.out)⟩
               ·rw [if_neg c155] at H
                exact absurd H (by simp)
          ·rw [if_neg c100] at H
           exact absurd H (by simp)
     ·replace c58:=Bool.eq_false_iff.mpr c58
      subst c58
      have H1:(some false)=some true:=by rw [if_neg (show ¬ (false=true) by decide)] at H;exact H
      exact absurd H1 (by simp)
end Go.Proofs.Ytghkbgmbbcaecaa.Q
namespace Go.Proofs.Ytghkbgmbbcaecaa.Q
open Go.RowKit Go.Proofs.YtghkbgmbbcaecaaW.PrintWords Go.Proofs.YtghkbgmbbcaecaaW.PrintLast
def Ev {α:Type} (F:Nat→Option α) (r:α):Prop:=∃ K,∀ k,K≤k→F k=some r
theorem Ev.pure {α:Type} (r:α):Ev (fun _=>some r) r:=⟨0,fun _ _=>rfl⟩
theorem Ev.const {α:Type} {x:Option α} {r:α} (h:x=some r):Ev (fun _=>x) r:=⟨0,fun _ _=>h⟩
theorem Ev.succ {α:Type} {F:Nat→Option α} {r:α} (h:Ev (fun k=>F (k+1)) r):Ev F r:=by
  obtain ⟨K,h⟩:=h
  refine ⟨K+1,fun k hk=>?_⟩
  obtain ⟨j,rfl⟩:∃ j,k=j+1:=⟨k - 1,by omega⟩
  exact h j (by omega)
theorem Ev.bind {α β:Type} {F:Nat→Option α} {G:Nat→α→Option β} {t:α} {r:β} (h:Ev F t) (h2:Ev (fun k=>G k t) r):Ev (fun k=>(F k).bind (G k)) r:=by
  obtain ⟨K,h⟩:=h
  obtain ⟨K2,h2⟩:=h2
  refine ⟨max K K2,fun k hk=>?_⟩
  simp only [h k (by omega),Option.bind_some]
  exact h2 k (by omega)
theorem Ev.bindc {α β:Type} {x:Option α} {G:Nat→α→Option β} {t:α} {r:β} (h:x=some t) (h2:Ev (fun k=>G k t) r):Ev (fun k=>x.bind (G k)) r:=Ev.bind (Ev.const h) h2
theorem Ev.pos {α:Type} {c:Prop} [Decidable c] {F G:Nat→Option α} {r:α} (hc:c) (h:Ev F r):Ev (fun k=>if c then F k else G k) r:=by simpa only [if_pos hc] using h
theorem Ev.neg {α:Type} {c:Prop} [Decidable c] {F G:Nat→Option α} {r:α} (hc:¬ c) (h:Ev G r):Ev (fun k=>if c then F k else G k) r:=by simpa only [if_neg hc] using h
theorem Ev.eq {α:Type} {F G:Nat→Option α} {r:α} (h:Ev F r) (e:∀ k,G k=F k):Ev G r:=by obtain ⟨K,h⟩:=h;exact ⟨K,fun k hk=>(e k).trans (h k hk)⟩
theorem Ev.ex {α:Type} {F:Nat→Option α} {r:α} (h:Ev F r):∃ k,F k=some r:=by obtain ⟨K,h⟩:=h;exact ⟨K,h K (Nat.le_refl _)⟩
theorem wnext (i:Nat) (h:i≤4611686018427387904):wrap64 ((i:Int)+1)=((i+1:Nat):Int):=by unfold wrap64;omega
end Go.Proofs.Ytghkbgmbbcaecaa.Q
namespace Go.Proofs.Ytghkbgmbbcaecaa.Q
open Go.RowKit Go.Proofs.YtghkbgmbbcaecaaW.PrintWords Go.Proofs.YtghkbgmbbcaecaaW.PrintLast
abbrev LN:=S72
abbrev IN:=S62
instance:DecidableEq IN:=fun a b=>decidable_of_iff (a.f0=b.f0∧a.f1=b.f1∧a.f2=b.f2) ⟨fun h=>by
  obtain ⟨a0,a1,a2⟩:=a
  obtain ⟨b0,b1,b2⟩:=b
  obtain ⟨rfl,rfl,rfl⟩:=h
  rfl,fun h=>by subst h;exact ⟨rfl,rfl,rfl⟩⟩
def cv (l:List LN):List IN:=l.map fun x=>⟨x.f0,x.f1,x.f2⟩
theorem cv_length (l:List LN):(cv l).length=l.length:=List.length_map _
theorem toNodeS_l0 (l:List LN) (hl:l.length≤1048576):∀ (n i:Nat),i+n=l.length→Ev (fun k=>laws_toNodeS.l0 k l ((cv l).take i ++ List.replicate n z62) (i:Int)) (cv l):=by
  intro n
  induction n with
  | zero =>
    intro i h
    refine Ev.succ ?_
    simp only [laws_toNodeS.l0]
    refine Ev.neg (by omega) ?_
    rw [List.take_of_length_le (by rw [cv_length];omega),List.replicate_zero,List.append_nil]
    exact Ev.pure _
  | succ n ih =>
    intro i h
    refine Ev.succ ?_
    simp only [laws_toNodeS.l0]
    have hlen:((cv l).take i ++ List.replicate (n+1) z62).length=l.length:=by simp [cv_length];omega
    refine Ev.pos (by omega) (Ev.pos (by omega) (Ev.bindc rfl (Ev.pos (by rw [hlen];omega) ?_)))
    refine (ih (i+1) (by omega)).eq fun k=>?_
    rw [wnext i (by omega)]
    congr 1
    have hi:i<l.length:=by omega
    have e1:(cv l).take (i+1)=(cv l).take i ++ [⟨l[i].f0,l[i].f1,l[i].f2⟩]:=by
      rw [List.take_succ_eq_append_getElem (by rw [cv_length];omega)]
      simp [cv]
    rw [e1,Int.toNat_natCast,List.set_append_right _ _ (by simp;omega)]
    have e2:i - ((cv l).take i).length=0:=by simp [cv_length];omega
    rw [e2,List.replicate_succ,List.set_cons_zero]
    simp [rd_T72,hi]
theorem toTrie_ev (l:List LN) (hl:l.length≤1048576):Ev (fun k=>laws_toTrie.f k l) (cv l):=by
  unfold laws_toTrie.f laws_toNodeS.f
  refine Ev.bind (t:=cv l) ?_ (Ev.pure _)
  refine Ev.pos (by omega) (Ev.pos (by omega) ?_)
  have:=toNodeS_l0 l hl l.length 0 (by omega)
  simpa using this
theorem szTrie_eq (l:List LN) (hl:l.length≤9223372036854775807):laws_szTrie.f l 1048576=some (if l.length≤1048576 then (1048576 - l.length:Int) else -1):=by
  unfold laws_szTrie.f laws_szNodeS.f
  have e:wrap64 (1048576 - (l.length:Int))=1048576 - (l.length:Int):=by unfold wrap64;omega
  rw [e]
  by_cases h:l.length≤1048576
  · rw [if_neg (show ¬ ((1048576:Int) - l.length<0) by omega),Option.bind_some,if_neg (show ¬ ((1048576:Int) - l.length<0) by omega),if_pos h]
  · rw [if_pos (show ((1048576:Int) - l.length<0) by omega),Option.bind_some,if_pos (by decide),if_neg h]
theorem eqNode_eq (a b:IN):laws_eqNode.f a.f0 a.f1 a.f2 b.f0 b.f1 b.f2=some (decide (a=b)):=by
  obtain ⟨a0,a1,a2⟩:=a
  obtain ⟨b0,b1,b2⟩:=b
  unfold laws_eqNode.f
  by_cases h0:a0=b0
  · by_cases h1:a1=b1
    · cases a2 <;> cases b2 <;> simp [h0,h1]
    · simp [h0,h1]
  · simp [h0]
theorem rd_nat' (l:List IN) (i:Nat) (h:i<l.length):rT l (i:Int)=l[i]:=by simp [rT,h]
theorem eqNodeS_l0 (a b:List IN) (hab:a.length=b.length) (hl:a.length≤1048576):∀ (n i:Nat),i+n=a.length→Ev (fun k=>laws_eqNodeS.l0 k a b (i:Int)) (decide (a.drop i=b.drop i)):=by
  intro n
  induction n with
  | zero =>
    intro i h
    refine Ev.succ ?_
    simp only [laws_eqNodeS.l0]
    refine Ev.neg (by omega) ?_
    rw [List.drop_of_length_le (by omega),List.drop_of_length_le (by omega)]
    exact Ev.pure _
  | succ n ih =>
    intro i h
    refine Ev.succ ?_
    simp only [laws_eqNodeS.l0]
    have hi:i<a.length:=by omega
    have hi2:i<b.length:=by omega
    refine Ev.pos (by omega) (Ev.pos (by omega) (Ev.pos (by omega) ?_))
    simp only [eqNode_eq,Option.bind_some,rd_nat' a i hi,rd_nat' b i hi2]
    have hd:(a.drop i=b.drop i) ↔ (a[i]=b[i]∧a.drop (i+1)=b.drop (i+1)):=by
      rw [List.drop_eq_getElem_cons hi,List.drop_eq_getElem_cons hi2]
      exact List.cons_eq_cons
    rw [decide_eq_decide.2 hd]
    by_cases e:a[i]=b[i]
    · refine Ev.pos (by simp [e]) ?_
      rw [wnext i (by omega)]
      have hq:=ih (i+1) (by omega)
      have e2:decide (a[i]=b[i]∧a.drop (i+1)=b.drop (i+1))=decide (a.drop (i+1)=b.drop (i+1)):=decide_eq_decide.2 (and_iff_right e)
      rw [e2]
      exact hq
    · refine Ev.neg (by simp [e]) ?_
      have e2:decide (a[i]=b[i]∧a.drop (i+1)=b.drop (i+1))=false:=decide_eq_false (fun h=>e h.1)
      rw [e2]
      exact Ev.pure _
theorem eqTrie_ev (a b:List IN) (hl:a.length≤1048576):Ev (fun k=>laws_eqTrie.f k a b) (decide (a=b)):=by
  unfold laws_eqTrie.f laws_eqNodeS.f
  by_cases hab:a.length=b.length
  · refine Ev.bind (t:=decide (a=b)) (Ev.pos (by omega) ?_) ?_
    · simpa using eqNodeS_l0 a b hab hl a.length 0 (by omega)
    · by_cases e:a=b
      · simp only [e,decide_true,if_true];exact Ev.pure _
      · simp only [e,decide_false,Bool.false_eq_true,if_false];exact Ev.pure _
  · have e:a ≠ b:=fun h=>hab (congrArg List.length h)
    refine Ev.bind (t:=false) (Ev.neg (by omega) (Ev.pure _)) ?_
    simp only [e,decide_false,Bool.false_eq_true,if_false]
    exact Ev.pure _
end Go.Proofs.Ytghkbgmbbcaecaa.Q
namespace Go.Proofs.Ytghkbgmbbcaecaa.Q
open Go.RowKit Go.Proofs.YtghkbgmbbcaecaaW.PrintWords Go.Proofs.YtghkbgmbbcaecaaW.PrintLast
def letterW (n:Int):ByteArray:=strOfNums [(wrap64 (97+n)) % 256]
def prefsW:List ByteArray→List IN→Option (List ByteArray)
  | ps,[]=>some ps
  | ps,n :: rest=>if 0≤n.f1∧n.f1<ps.length∧0≤n.f0∧n.f0≤25 then prefsW (ps ++ [rdOf ByteArray.empty ps n.f1 ++ letterW n.f0]) rest else none
def wordsW:List IN→List ByteArray→List ByteArray
  | n :: l,p :: ps=>if n.f2=true then p :: wordsW l ps else wordsW l ps
  | _,_=>[]
def resP:Option (List ByteArray)→List ByteArray × Bool
  | some r=>(r,true)
  | none=>([],false)
theorem in_eq (a b c:Int):impl_in.f a b c=some (decide (b≤a∧a≤c)):=by
  unfold impl_in.f
  by_cases h:b≤a
  · rw [if_pos h];congr 1;exact decide_eq_decide.2 (by omega)
  · rw [if_neg (by omega)];congr 1;exact (decide_eq_false (by omega)).symm
theorem letterW_size (n:Int):(letterW n).size=1:=by
  simp [letterW,strOfNums,ByteArray.size]
theorem size_app (a b:ByteArray):(a ++ b).size=a.size+b.size:=by simp
theorem prefixes_l0 (y:List IN) (hy:y.length≤1000):∀ (n i:Nat) (ps:List ByteArray),i+n=y.length→ps.length=i+1→(∀ p ∈ ps,p.size≤ps.length) →
    Ev (fun k=>impl_Trie_prefixes.l0 k ps y (y.length:Int) (i:Int)) (resP (prefsW ps (y.drop i))):=by
  intro n
  induction n with
  | zero =>
    intro i ps h hp hs
    refine Ev.succ ?_
    simp only [impl_Trie_prefixes.l0]
    rw [List.drop_of_length_le (by omega)]
    exact Ev.neg (by omega) (Ev.pure _)
  | succ n ih =>
    intro i ps h hp hs
    refine Ev.succ ?_
    simp only [impl_Trie_prefixes.l0,in_eq,impl_letter.f,Option.bind_some]
    have hi:i<y.length:=by omega
    rw [List.drop_eq_getElem_cons hi]
    simp only [rd_nat' y i hi,prefsW]
    refine Ev.pos (by omega) (Ev.pos (by omega) (Ev.pos (by omega) ?_))
    by_cases h1:0≤y[i].f1∧y[i].f1≤(i:Int)
    · refine Ev.pos (by simpa using h1) ?_
      by_cases h2:0≤y[i].f0∧y[i].f0≤25
      · refine Ev.pos (by simpa using h2) (Ev.pos h1.1 (Ev.pos (by omega) ?_))
        rw [if_pos (by omega)]
        have hmem:rdOf ByteArray.empty ps y[i].f1 ∈ ps:=at_mem h1.1 (by omega)
        have hsz:=hs _ hmem
        have hls:=letterW_size y[i].f0
        have hls':(strOfNums [(wrap64 (97+y[i].f0)) % 256]).size=1:=hls
        refine Ev.pos (by rw [hls'];omega) (Ev.pos (by omega) ?_)
        rw [wnext i (by omega)]
        refine ih (i+1) _ (by omega) (by simp;omega) (fun p hp2=>?_)
        rw [List.length_append,List.length_singleton]
        rcases List.mem_append.1 hp2 with h3|h3
        · have:=hs p h3;omega
        · rw [List.mem_singleton.1 h3,size_app]
          have:(letterW y[i].f0).size=1:=hls
          omega
      · rw [if_neg (by omega)]
        exact Ev.neg (by simpa using h2) (Ev.pure _)
    · rw [if_neg (by omega)]
      exact Ev.neg (by simpa using h1) (Ev.pure _)
def prefixesW (l:List IN):Option (List ByteArray):=if 1≤l.length∧l.length≤481 then prefsW [ByteArray.empty] (l.drop 1) else none
theorem prefixes_ev (l:List IN):Ev (fun k=>impl_Trie_prefixes.f k l) (resP (prefixesW l)):=by
  unfold impl_Trie_prefixes.f prefixesW
  simp only [in_eq,Option.bind_some]
  by_cases h:1≤l.length∧l.length≤481
  · rw [if_pos h]
    refine Ev.pos (by simp;omega) (Ev.pos (by omega) ?_)
    have:=prefixes_l0 (l.drop 1) (by simp;omega) (l.drop 1).length 0 [ByteArray.empty] (by omega) rfl (fun p hp=>by rw [List.mem_singleton.1 hp];exact Nat.zero_le _)
    rw [List.drop_zero] at this
    exact this
  · rw [if_neg h]
    exact Ev.neg (by simp;omega) (Ev.pure _)
theorem prefsW_length:∀ {l:List IN} {ps r:List ByteArray},prefsW ps l=some r→r.length=ps.length+l.length
  | [],ps,r,h=>by
    simp only [prefsW] at h
    injection h with h
    subst h;rfl
  | n :: l,ps,r,h=>by
    simp only [prefsW] at h
    split at h
    · have:=prefsW_length h
      simp at this ⊢
      omega
    · cases h
theorem prefixesW_length {l:List IN} {r:List ByteArray} (h:prefixesW l=some r):r.length=l.length∧l.length≤481∧1≤l.length:=by
  unfold prefixesW at h
  split at h
  · rename_i hl
    have:=prefsW_length h
    simp at this
    omega
  · cases h
theorem words_l0 (ps:List ByteArray) (l:List IN) (hl:l.length≤1000) (hp:ps.length=l.length):∀ (n i:Nat) (acc:List ByteArray),i+n=l.length→acc.length≤i →
    Ev (fun k=>impl_Trie_words.l0 k ps acc l (l.length:Int) (i:Int)) (acc ++ wordsW (l.drop i) (ps.drop i)):=by
  intro n
  induction n with
  | zero =>
    intro i acc h ha
    refine Ev.succ ?_
    simp only [impl_Trie_words.l0]
    rw [List.drop_of_length_le (by omega),List.drop_of_length_le (by omega)]
    simp only [wordsW,List.append_nil]
    exact Ev.neg (by omega) (Ev.pure _)
  | succ n ih =>
    intro i acc h ha
    refine Ev.succ ?_
    simp only [impl_Trie_words.l0]
    have hi:i<l.length:=by omega
    have hi2:i<ps.length:=by omega
    rw [List.drop_eq_getElem_cons hi,List.drop_eq_getElem_cons hi2]
    simp only [rd_nat' l i hi,rd_nat ps hi2,wordsW]
    refine Ev.pos (by omega) (Ev.pos (by omega) (Ev.pos (by omega) ?_))
    rw [wnext i (by omega)]
    by_cases e:l[i].f2=true
    · refine Ev.pos e (Ev.pos (by omega) (Ev.pos (by omega) ?_))
      have:=ih (i+1) (acc ++ [ps[i]]) (by omega) (by simp;omega)
      rw [if_pos e]
      simpa using this
    · refine Ev.neg e ?_
      rw [if_neg e]
      exact ih (i+1) acc (by omega) (by omega)
theorem words_ev (l:List IN) (ps:List ByteArray) (h:prefixesW l=some ps):Ev (fun k=>impl_Trie_words.f k l) (wordsW l ps):=by
  unfold impl_Trie_words.f
  have hl:=prefixesW_length h
  refine Ev.bind (prefixes_ev l) ?_
  rw [h]
  have:=words_l0 ps l (by omega) hl.1 l.length 0 [] (by omega) (by simp)
  simpa [resP] using this
theorem node_l0 (a b:List IN) (hab:a.length=b.length) (hl:a.length≤1048576):∀ (n i:Nat),i+n=a.length→Ev (fun k=>impl_Node.l0 k a b (a.length:Int) (i:Int)) (decide (a.drop i=b.drop i)):=by
  intro n
  induction n with
  | zero =>
    intro i h
    refine Ev.succ ?_
    simp only [impl_Node.l0]
    refine Ev.neg (by omega) ?_
    rw [List.drop_of_length_le (by omega),List.drop_of_length_le (by omega)]
    exact Ev.pure _
  | succ n ih =>
    intro i h
    refine Ev.succ ?_
    simp only [impl_Node.l0]
    have hi:i<a.length:=by omega
    have hi2:i<b.length:=by omega
    refine Ev.pos (by omega) (Ev.pos (by omega) (Ev.pos (by omega) (Ev.pos (by omega) ?_)))
    simp only [rd_nat' a i hi,rd_nat' b i hi2]
    have hd:(a.drop i=b.drop i) ↔ (a[i]=b[i]∧a.drop (i+1)=b.drop (i+1)):=by
      rw [List.drop_eq_getElem_cons hi,List.drop_eq_getElem_cons hi2]
      exact List.cons_eq_cons
    have hne:∀ x y:IN,(!(x.f0 == y.f0) || (!(x.f1 == y.f1) || !(x.f2 == y.f2)))=!decide (x=y):=fun x y=>by
      obtain ⟨x0,x1,x2⟩:=x
      obtain ⟨y0,y1,y2⟩:=y
      by_cases h0:x0=y0 <;> by_cases h1:x1=y1 <;> by_cases h2:x2=y2 <;> simp [h0,h1,h2]
    rw [decide_eq_decide.2 hd,hne]
    by_cases e:a[i]=b[i]
    · refine Ev.neg (by simp [e]) ?_
      rw [wnext i (by omega)]
      have hq:=ih (i+1) (by omega)
      have e2:decide (a[i]=b[i]∧a.drop (i+1)=b.drop (i+1))=decide (a.drop (i+1)=b.drop (i+1)):=decide_eq_decide.2 (and_iff_right e)
      rw [e2]
      exact hq
    · refine Ev.pos (by simp [e]) ?_
      have e2:decide (a[i]=b[i]∧a.drop (i+1)=b.drop (i+1))=false:=decide_eq_false (fun h=>e h.1)
      rw [e2]
      exact Ev.pure _
theorem node_ev (a b:List IN) (hl:a.length≤1048576):Ev (fun k=>impl_Node.f k a b) (decide (a=b)):=by
  unfold impl_Node.f
  by_cases hab:a.length=b.length
  · refine Ev.pos (by omega) ?_
    simpa using node_l0 a b hab hl a.length 0 (by omega)
  · have e:a ≠ b:=fun h=>hab (congrArg List.length h)
    rw [decide_eq_false e]
    exact Ev.neg (by omega) (Ev.pure _)
theorem sorted_l0 (l:List ByteArray) (hl:l.length≤1000000):∀ (i:Nat),i<l.length→Ev (fun k=>slices_IsSorted_string_string.l0 k l (i:Int)) (decide (∀ j,j<i→atW l (j:Int)≤atW l ((j+1:Nat):Int))):=by
  intro i
  induction i with
  | zero =>
    intro h
    refine Ev.succ ?_
    simp only [slices_IsSorted_string_string.l0]
    rw [decide_eq_true (fun j hj=>absurd hj (Nat.not_lt_zero _))]
    exact Ev.neg (by omega) (Ev.pure _)
  | succ i ih =>
    intro h
    refine Ev.succ ?_
    have e1:wrap64 (((i+1:Nat):Int) - 1)=(i:Int):=by unfold wrap64;omega
    simp only [slices_IsSorted_string_string.l0,less_pure,Option.bind_some,e1]
    refine Ev.pos (by omega) (Ev.pos (by omega) (Ev.pos (by omega) (Ev.pos (by omega) (Ev.pos (by omega) ?_))))
    by_cases hlt:atW l ((i+1:Nat):Int)<atW l (i:Int)
    · have e2:decide (∀ j,j<i+1→atW l (j:Int)≤atW l ((j+1:Nat):Int))=false:=decide_eq_false (fun hf=>absurd hlt (List.not_lt.2 (hf i (by omega))))
      rw [e2]
      exact Ev.pos (decide_eq_true hlt) (Ev.pure _)
    · refine Ev.neg (fun h2=>hlt (of_decide_eq_true h2)) ?_
      have hq:=ih (by omega)
      have e2:decide (∀ j,j<i+1→atW l (j:Int)≤atW l ((j+1:Nat):Int))=decide (∀ j,j<i→atW l (j:Int)≤atW l ((j+1:Nat):Int)):=decide_eq_decide.2 ⟨fun hf j hj=>hf j (by omega),fun hf j hj=>by
        by_cases ej:j=i
        · subst ej;exact List.not_lt.1 hlt
        · exact hf j (by omega)⟩
      rw [e2]
      exact hq
theorem adj_SW (l:List ByteArray):(∀ j,j<l.length - 1→atW l (j:Int)≤atW l ((j+1:Nat):Int)) ↔ SW l:=by
  constructor
  · intro h
    unfold SW
    rw [List.pairwise_iff_getElem]
    have key:∀ d i,i+d<l.length→atW l (i:Int)≤atW l ((i+d:Nat):Int):=by
      intro d
      induction d with
      | zero=>intro i _;exact List.le_refl _
      | succ d ih =>
        intro i hi
        exact List.le_trans (ih i (by omega)) (h (i+d) (by omega))
    intro i j hi hj hij
    have:=key (j - i) i (by omega)
    rw [show i+(j - i)=j by omega] at this
    simpa [atW,rdOf,hi,hj] using this
  · intro h j hj
    exact h.at (by omega) (by omega) (by omega)
instance (l:List ByteArray):Decidable (SW l):=inferInstanceAs (Decidable (l.Pairwise fun a b=>lw a≤lw b))
theorem sorted_ev (l:List ByteArray) (hl:l.length≤1000000):Ev (fun k=>slices_IsSorted_string_string.f k l) (decide (SW l)):=by
  unfold slices_IsSorted_string_string.f
  by_cases h0:l.length=0
  · obtain rfl:=List.eq_nil_of_length_eq_zero h0
    refine Ev.succ ?_
    simp only [slices_IsSorted_string_string.l0]
    rw [decide_eq_true (show SW [] from List.Pairwise.nil)]
    exact Ev.neg (by simp [wrap64]) (Ev.pure _)
  · have e:wrap64 ((l.length:Int) - 1)=((l.length - 1:Nat):Int):=by unfold wrap64;omega
    rw [e,← decide_eq_decide.2 (adj_SW l)]
    exact sorted_l0 l hl (l.length - 1) (by omega)
def isTrieW (l:List IN):Bool :=
  match prefixesW l with
  | none=>false
  | some ps=>if ps.any longW then false else
    decide ((wordsW l ps).length≤40) && (decide (SW (wordsW l ps)) && decide (trieW (wordsW l ps)=l))
theorem wordsW_mem:∀ {l:List IN} {ps:List ByteArray} {x:ByteArray},x ∈ wordsW l ps→x ∈ ps
  | [],ps,x,h=>by simp [wordsW] at h
  | n :: l,[],x,h=>by simp [wordsW] at h
  | n :: l,p :: ps,x,h=>by
    simp only [wordsW] at h
    split at h
    · rcases List.mem_cons.1 h with rfl|h
      · exact List.mem_cons_self
      · exact List.mem_cons_of_mem _ (wordsW_mem h)
    · exact List.mem_cons_of_mem _ (wordsW_mem h)
theorem allPfx_len:∀ (ws:List ByteArray),(∀ w ∈ ws,w.size≤12)→(allPfx ws).length≤1+12 * ws.length:=by
  intro ws h
  unfold allPfx
  rw [List.length_cons]
  have:(ws.flatMap fun w=>pfx w w.size).length≤12 * ws.length:=by
    induction ws with
    | nil=>simp
    | cons w ws ih =>
      rw [List.flatMap_cons,List.length_append,List.length_cons]
      have h1:=ih (fun x hx=>h x (List.mem_cons_of_mem _ hx))
      have h2:=h w List.mem_cons_self
      have h3:(pfx w w.size).length=w.size:=by simp [pfx]
      omega
  omega
theorem okTrieOf_of {ws:List ByteArray} (h12:∀ w ∈ ws,w.size≤12) (h40:ws.length≤1000000) (hs:SW ws):impl_trieOf.f ws=some (trieW ws):=by
  unfold impl_trieOf.f okTrieOf
  have:=allPfx_len ws h12
  rw [if_pos]
  simp only [Bool.and_eq_true,decide_eq_true_eq]
  exact ⟨⟨by omega,by omega⟩,hs⟩
theorem prefW_le (ws:List ByteArray) (h:∀ w ∈ ws,w.size≤12):(prefW ws).length≤1+12 * ws.length:=Nat.le_trans (prefW_len ws) (allPfx_len ws h)
theorem trieW_length (ws:List ByteArray):(trieW ws).length=(prefW ws).length:=List.length_map _
theorem isTrie_ev (l:List IN):Ev (fun k=>impl_isTrie.f k l) (isTrieW l):=by
  unfold impl_isTrie.f isTrieW
  refine Ev.bind (prefixes_ev l) ?_
  cases hp:prefixesW l with
  | none =>
    simp only [resP]
    refine Ev.neg (by decide) (Ev.succ ?_)
    simp only [impl_isTrie.j0]
    exact Ev.pos trivial (Ev.pure _)
  | some ps =>
    simp only [resP]
    have hl:=prefixesW_length hp
    refine Ev.pos trivial (Ev.bindc (t:=ps.any longW) (by unfold slices_ContainsFunc_string_string_impl_isTrie_1.f;rw [if_pos (by omega)]) (Ev.succ ?_))
    simp only [impl_isTrie.j0]
    by_cases h12:ps.any longW=true
    · rw [if_pos h12]
      exact Ev.pos h12 (Ev.pure _)
    · rw [if_neg h12]
      refine Ev.neg h12 (Ev.bind (words_ev l ps hp) ?_)
      have hsz:∀ w ∈ wordsW l ps,w.size≤12:=fun w hw=>by
        have h1:¬ longW w=true:=fun h2=>h12 (List.any_eq_true.2 ⟨w,wordsW_mem hw,h2⟩)
        simp [longW] at h1
        omega
      by_cases h40:(wordsW l ps).length≤40
      · rw [decide_eq_true h40,Bool.true_and]
        refine Ev.pos (by omega) (Ev.bind (sorted_ev _ (by omega)) ?_)
        by_cases hs:SW (wordsW l ps)
        · rw [decide_eq_true hs,Bool.true_and]
          have hle:=prefW_le _ hsz
          refine Ev.pos rfl (Ev.bindc (okTrieOf_of hsz (by omega) hs) (Ev.bind (node_ev _ _ (by rw [trieW_length];omega)) (Ev.pure _)))
        · rw [decide_eq_false hs,Bool.false_and]
          exact Ev.neg (by decide) (Ev.pure _)
      · rw [decide_eq_false h40,Bool.false_and]
        exact Ev.neg (by omega) (Ev.pure _)
end Go.Proofs.Ytghkbgmbbcaecaa.Q
