import Derived.Test.YtghkbgmbbcaecaaD0
import Derived.Test.YtghkbgmbbcaecaaD1
import Derived.Test.YtghkbgmbbcaecaaDwWords
import Derived.Test.YtghkbgmbbcaecaaDwLast
import Derived.Test.YtghkbgmbbcaecaaDwTab
import Derived.Test.YtghkbgmbbcaecaaDwApart
import Derived.Test.YtghkbgmbbcaecaaDwFoot
import Derived.Test.YtghkbgmbbcaecaaDwKept
import Derived.Test.YtghkbgmbbcaecaaDwShare
import Derived.Test.YtghkbgmbbcaecaaDwN
import Derived.Test.YtghkbgmbbcaecaaDwRepsOne
import Derived.Test.YtghkbgmbbcaecaaDwGuard
import Derived.Test.YtghkbgmbbcaecaaDwMore
import Derived.Test.YtghkbgmbbcaecaaProg
import Derived.Below
import Derived.Deep.Draws
import Derived.Deep.AppendLies
import Derived.Maps.AppendAt
import Derived.OwnWalk
import Derived.Laws.BytesArg
import Derived.Laws.MakeOwn
import Derived.Laws.OwnMore
import Derived.Deep.OwnRows
import Derived.Tactics
import Derived.Lib.ConvBytes
import Derived.Laws.Slices
import Derived.WalkKit
import Derived.KernelRfl
import Derived.RowKit3
import Derived.Deep.LoopGhost
import Derived.Deep.QuietTactic
import Derived.BigQuiet
import Derived.WideLaws
import Derived.Deep.DeepCutAuto
import Derived.Deep.CutBlock
import Derived.Deep.RegionHeld3
import Derived.Laws.Rows
import Derived.Lib.AppendStr
import Derived.ArgAppend
import Derived.Laws.IdiomCopy
import Derived.OrdersHeld
import Derived.Laws.BitsLemmas
import Derived.RowKit
import Derived.Lib.SlicesCompact
import Derived.Maps.Own
import Derived.StringKeys
import Derived.Maps.OwnOps
import Derived.Maps.OwnSet
import Derived.Maps.Views
import Derived.Laws.AppendOwn
import Derived.Deep.DrawnRows
import Derived.Shelf.Sort.Plain
import Derived.Shelf.Slices.CompactS
import Derived.Shelf.Slices.In.SortNone
import Derived.RangeFuncBox
import Derived.RangeFuncLeaves
import Derived.Shelf.Abstract
import Derived.OwnWalkIn
import Derived.TacticsInMore
import Derived.LoopNIn
import Derived.LoopIn
import Derived.Lib.OwnBridge
import Derived.Sort.OwnSorted
import Derived.Sort.Grow
import Derived.Shelf.Strings.OnBuilder
import Derived.Ground.NamesProg
import Derived.Ground.SlgfProg
import Derived.Sort.Walk0
import Derived.Lib.Strings
set_option linter.unusedVariables false
set_option linter.unusedSimpArgs false
namespace Go.Proofs.Ytghkbgmbbcaecaa.Q
open Go.RowKit Go.Proofs.YtghkbgmbbcaecaaW.PrintWords Go.Proofs.YtghkbgmbbcaecaaW.PrintLast Go.Proofs.YtghkbgmbbcaecaaW.PrintMore
attribute [local go_sem] run_field_23 run_field_24 run_field_31 run_field_32 run_field_35 run_field_36 isSome_setCell max2_int min2_int max_two min_two max_three min_three max_four min_four   -- for this text's walks alone
set_option linter.unusedVariables false
set_option linter.unusedSimpArgs false
mutual
def impl_ParseTrie.l0:Nat→ByteArray→List Int→ByteArray→List ByteArray→Int→Int→Option ((List (S62)) × Bool)
  | 0,_,_,_,_,_,_=>none
  | k+1,x0,x4,x5,x6,x14,x15=>if x15<x14 then (if 0≤x15 then (if x15<(x0.size:Int) then (if (bt x0 x15)=46 then (if x6.length<8796093022208 then ((some (x6 ++ [x5]:List ByteArray)).bind fun y538=>(if (x5.size:Int) > 12 then (some (([]:List (S62)),false)) else (if (y538.length:Int) > 40 then (some (([]:List (S62)),false)) else (if (x4.length:Int) > 12 then (some (([]:List (S62)),false)) else (impl_ParseTrie.l0 k x0 x4 x5 y538 x14 (wrap64 (x15+1))))))) else (none)) else (if (bt x0 x15)=40 then (if x4.length<17592186044416 then ((some (x4 ++ [(x5.size:Int)]:List Int)).bind fun y541=>(if (x5.size:Int) > 12 then (some (([]:List (S62)),false)) else (if (x6.length:Int) > 40 then (some (([]:List (S62)),false)) else (if (y541.length:Int) > 12 then (some (([]:List (S62)),false)) else (impl_ParseTrie.l0 k x0 y541 x5 x6 x14 (wrap64 (x15+1))))))) else (none)) else (if (bt x0 x15)=41 then (impl_ParseTrie.j1 k x0 x4 x5 x6 x15 (bt x0 x15) x14 x15 (decide ((x4.length:Int) > 0))) else (impl_ParseTrie.j1 k x0 x4 x5 x6 x15 (bt x0 x15) x14 x15 false)))) else (none)) else (none)) else ((impl_ofWords.f x6).bind fun bt549=>(if bt549.2=true then ((impl_Trie_text.f k bt549.1 0).bind fun t554=>(if t554.toList=x0.toList then (some (bt549.1,true)) else (some (([]:List (S62)),false)))) else (some (([]:List (S62)),false))))
def impl_ParseTrie.j1:Nat→ByteArray→List Int→ByteArray→List ByteArray→Int→Int→Int→Int→Bool→Option ((List (S62)) × Bool)
  | 0,_,_,_,_,_,_,_,_,_=>none
  | k+1,x0,x4,x5,x6,x7,x8,x14,x15,x37=>if x37=true then (if 0≤(wrap64 ((x4.length:Int) - 1)) then (if (wrap64 ((x4.length:Int) - 1))<(x4.length:Int) then (if 0≤(rd x4 (wrap64 ((x4.length:Int) - 1))) then (if (rd x4 (wrap64 ((x4.length:Int) - 1)))≤(x5.size:Int) then (if (wrap64 ((x4.length:Int) - 1))≤(x4.length:Int) then ((some (x4.take ((wrap64 ((x4.length:Int) - 1)):Int).toNat:List Int)).bind fun y545=>(if ((x5.extract 0 ((rd x4 (wrap64 ((x4.length:Int) - 1))):Int).toNat).size:Int) > 12 then (some (([]:List (S62)),false)) else (if (x6.length:Int) > 40 then (some (([]:List (S62)),false)) else (if (y545.length:Int) > 12 then (some (([]:List (S62)),false)) else (impl_ParseTrie.l0 k x0 y545 (x5.extract 0 ((rd x4 (wrap64 ((x4.length:Int) - 1))):Int).toNat) x6 x14 (wrap64 (x15+1))))))) else (none)) else (none)) else (none)) else (none)) else (none)) else (if x8 ≥ 97 then (if x8≤122 then (impl_ParseTrie.j2 k x0 x4 x5 x6 x7 x14 x15 (decide ((x4.length:Int) > 0))) else (impl_ParseTrie.j2 k x0 x4 x5 x6 x7 x14 x15 false)) else (impl_ParseTrie.j2 k x0 x4 x5 x6 x7 x14 x15 false))
def impl_ParseTrie.j2:Nat→ByteArray→List Int→ByteArray→List ByteArray→Int→Int→Int→Bool→Option ((List (S62)) × Bool)
  | 0,_,_,_,_,_,_,_,_=>none
  | k+1,x0,x4,x5,x6,x7,x14,x15,x58=>if x58=true then (if 0≤(wrap64 ((x4.length:Int) - 1)) then (if (wrap64 ((x4.length:Int) - 1))<(x4.length:Int) then (if 0≤(rd x4 (wrap64 ((x4.length:Int) - 1))) then (if (rd x4 (wrap64 ((x4.length:Int) - 1)))≤(x5.size:Int) then (if 0≤x7 then (if x7≤(wrap64 (x7+1)) then (if (wrap64 (x7+1))≤(x0.size:Int) then (if (x5.extract 0 ((rd x4 (wrap64 ((x4.length:Int) - 1))):Int).toNat).size+(x0.extract (x7:Int).toNat ((wrap64 (x7+1)):Int).toNat).size≤9223372036854775807 then (if (((x5.extract 0 ((rd x4 (wrap64 ((x4.length:Int) - 1))):Int).toNat) ++ (x0.extract (x7:Int).toNat ((wrap64 (x7+1)):Int).toNat)).size:Int) > 12 then (some (([]:List (S62)),false)) else (if (x6.length:Int) > 40 then (some (([]:List (S62)),false)) else (if (x4.length:Int) > 12 then (some (([]:List (S62)),false)) else (impl_ParseTrie.l0 k x0 x4 ((x5.extract 0 ((rd x4 (wrap64 ((x4.length:Int) - 1))):Int).toNat) ++ (x0.extract (x7:Int).toNat ((wrap64 (x7+1)):Int).toNat)) x6 x14 (wrap64 (x15+1)))))) else (none)) else (none)) else (none)) else (none)) else (none)) else (none)) else (none)) else (none)) else (some (([]:List (S62)),false))
end
def impl_ParseTrie.f (k:Nat) (a0:ByteArray):Option ((List (S62)) × Bool):=impl_ParseTrie.l0 k a0 (([]:List Int)) (⟨#[]⟩:ByteArray) (([]:List ByteArray)) (a0.size:Int) 0
set_option maxHeartbeats 8000000 in
set_option maxRecDepth 100000 in
theorem impl_ParseTrie.calls (k:Nat) (a0:ByteArray) (r1:List (S62)) (r2:Bool) (w:World) (h:impl_ParseTrie.f k a0=some (r1,r2)) :
    Calls Try.prog 6 #[.string a0] w fun e w'=>∃ v0_:Value,e=.returned (.tuple #[.agg #[v0_],.bool r2])∧Kd.R k62 62 w' w.heap.size (fun _=>True) v0_ r1∧Below w.heap.size w w':=by
  have hu24:=Try.underlying24
  have HB:=Zz.mk (Below.refl w.heap.size w)
  have H:(impl_ParseTrie.l0 k a0 (([]:List Int)) (⟨#[]⟩:ByteArray) (([]:List ByteArray)) (a0.size:Int) 0)=some (r1,r2):=h
  clear h
  obtain ⟨y532,hy532⟩:∃ y_:List Int,y_=(([]:List Int)):=⟨_,rfl⟩
  replace H:(impl_ParseTrie.l0 k a0 y532 (⟨#[]⟩:ByteArray) (([]:List ByteArray)) (a0.size:Int) 0)=some (r1,r2):=by first|(rw [hy532];with_reducible exact H)|(have H2_:=(Option.bind_some _ _).symm.trans H;rw [hy532];with_reducible exact H2_)|(have H2_:=(Option.bind_some _ _).symm.trans H;with_reducible exact H2_)|with_reducible exact H|(rw [hy532];exact H)|exact H
  have Ny532:=Zz.mk hy532
  clear hy532
  obtain ⟨y535,hy535⟩:∃ y_:List ByteArray,y_=(([]:List ByteArray)):=⟨_,rfl⟩
  replace H:(impl_ParseTrie.l0 k a0 y532 (⟨#[]⟩:ByteArray) y535 (a0.size:Int) 0)=some (r1,r2):=by first|(rw [hy535];with_reducible exact H)|(have H2_:=(Option.bind_some _ _).symm.trans H;rw [hy535];with_reducible exact H2_)|(have H2_:=(Option.bind_some _ _).symm.trans H;with_reducible exact H2_)|with_reducible exact H|(rw [hy535];exact H)|exact H
  have Ny535:=Zz.mk hy535
  clear hy535
  have H':=Zz.mk H
  clear H
  go_enter Try.func6,Try.ntmps6
  go_wp2_with (first|((with_reducible refine gate_dst (N:=2) rfl ?_);(try (refine gate_guard (by rfl) ?_;dsimp only));refine box_event ?hg (N:=2) ?hd (cs:=#[.slice none 0 0]) (t:=24) ?hr ?_;(case hd=>rfl);(case hg=>rfl);(case hr=>first|(go_simp;done)|(go_simp;rfl));intro gb531 hg w2 hbox hb;have n0_:=Zz.mk (qP (by repeat (first|(with_reducible first|exact HB.out|apply qA|apply qN|apply q1_)|exact HB.out)) hb);have n1_:=Zz.mk (hbox);have n2_:=Zz.mk ((by rw [hg];exact (qZ (by repeat (first|(with_reducible first|exact HB.out|apply qA|apply qN|apply q1_)|exact HB.out))):w.heap.size≤gb531));have n3_:=Zz.mk ((by rw [hg];exact (qZ (by repeat (first|(with_reducible first|exact HB.out|apply qA|apply qN|apply q1_)|exact HB.out))):w.heap.size≤gb531));clear HB;have HB:=n0_;have BK531:=n1_;have GW531:=n2_;have GE531:=n3_;clear n0_ n1_ n2_ n3_;clear hb hbox hg)|((with_reducible refine gate_dst (N:=11) rfl ?_);(try (refine gate_guard (by rfl) ?_;dsimp only));refine Kd.R_lit (Kd.int .i64) _ 3 ?hg (N:=11) ?hd (xs:=([]:List Int)) (inner:=[]) (ok:=fun _=>True) (okp:=fun _=>True) ?hr ?hp (fun _ hk=>hk) trivial (Below.refl _ _) (Nat.le_refl _) (by simp) ?_;(case hd=>rfl);(case hg=>rfl);(case hr=>first|(go_simp;done)|(go_simp;rfl));(case hp=>exact (Reps.none _ _));intro v533 w3 ho4 hb hg_ hnew_;clear hg_ hnew_;(first|rw [← Ny532.out] at ho4|(simp only [Int.reduceToNat] at ho4;rw [← Ny532.out] at ho4));have n0_:=Zz.mk (Kd.R_lower ho4 (qZ (by repeat (first|(with_reducible first|exact HB.out|apply qA|apply qN|apply q1_|refine qS ?_ GE531.out)|exact HB.out))));have n1_:=Zz.mk (bB (g:=gb531) (o:=.cells #[.slice none 0 0] 24 (0,0)) (by (with_reducible repeat first|apply bN|apply bD|apply bA);exact BK531.out) hb);have n2_:=Zz.mk (qP (by repeat (first|(with_reducible first|exact HB.out|apply qA|apply qN|apply q1_|refine qS ?_ GE531.out)|exact HB.out)) hb);clear BK531;clear HB;have HO534:=n0_;have BK531:=n1_;have HB:=n2_;clear n0_ n1_ n2_;clear hb ho4)|((with_reducible refine gate_dst (N:=12) rfl ?_);(try (refine gate_guard (by rfl) ?_;dsimp only));refine Kd.R_lit Kd.string _ 9 ?hg (N:=12) ?hd (xs:=([]:List ByteArray)) (inner:=[]) (ok:=fun _=>True) (okp:=fun _=>True) ?hr ?hp (fun _ hk=>hk) trivial (Below.refl _ _) (Nat.le_refl _) (by simp) ?_;(case hd=>rfl);(case hg=>rfl);(case hr=>first|(go_simp;done)|(go_simp;rfl));(case hp=>exact (Reps.none _ _));intro v536 w5 ho6 hb hg_ hnew_;clear hg_ hnew_;(first|rw [← Ny535.out] at ho6|(simp only [Int.reduceToNat] at ho6;rw [← Ny535.out] at ho6));have n0_:=Zz.mk (Kd.R_below (by (with_reducible repeat first|apply Kd.R_alloc|apply Kd.R_drewN|apply Kd.R_drew);exact HO534.out) hb);have n1_:=Zz.mk (Kd.R_lower ho6 (qZ (by repeat (first|(with_reducible first|exact HB.out|apply qA|apply qN|apply q1_|refine qS ?_ GE531.out)|exact HB.out))));have n2_:=Zz.mk (bB (g:=gb531) (o:=.cells #[.slice none 0 0] 24 (0,0)) (by (with_reducible repeat first|apply bN|apply bD|apply bA);exact BK531.out) hb);have n3_:=Zz.mk (qP (by repeat (first|(with_reducible first|exact HB.out|apply qA|apply qN|apply q1_|refine qS ?_ GE531.out)|exact HB.out)) hb);clear HO534;clear BK531;clear HB;have HO534:=n0_;have HO537:=n1_;have BK531:=n2_;have HB:=n3_;clear n0_ n1_ n2_ n3_;clear hb ho6))
  repeat (go_quiet (first|((with_reducible refine gate_dst (N:=2) rfl ?_);(try (refine gate_guard (by rfl) ?_;dsimp only));refine box_event ?hg (N:=2) ?hd (cs:=#[.slice none 0 0]) (t:=24) ?hr ?_;(case hd=>rfl);(case hg=>rfl);(case hr=>first|(go_simp;done)|(go_simp;rfl));intro gb531 hg w2 hbox hb;have n0_:=Zz.mk (qP (by repeat (first|(with_reducible first|exact HB.out|apply qA|apply qN|apply q1_)|exact HB.out)) hb);have n1_:=Zz.mk (hbox);have n2_:=Zz.mk ((by rw [hg];exact (qZ (by repeat (first|(with_reducible first|exact HB.out|apply qA|apply qN|apply q1_)|exact HB.out))):w.heap.size≤gb531));have n3_:=Zz.mk ((by rw [hg];exact (qZ (by repeat (first|(with_reducible first|exact HB.out|apply qA|apply qN|apply q1_)|exact HB.out))):w.heap.size≤gb531));clear HB;have HB:=n0_;have BK531:=n1_;have GW531:=n2_;have GE531:=n3_;clear n0_ n1_ n2_ n3_;clear hb hbox hg)|((with_reducible refine gate_dst (N:=11) rfl ?_);(try (refine gate_guard (by rfl) ?_;dsimp only));refine Kd.R_lit (Kd.int .i64) _ 3 ?hg (N:=11) ?hd (xs:=([]:List Int)) (inner:=[]) (ok:=fun _=>True) (okp:=fun _=>True) ?hr ?hp (fun _ hk=>hk) trivial (Below.refl _ _) (Nat.le_refl _) (by simp) ?_;(case hd=>rfl);(case hg=>rfl);(case hr=>first|(go_simp;done)|(go_simp;rfl));(case hp=>exact (Reps.none _ _));intro v533 w3 ho4 hb hg_ hnew_;clear hg_ hnew_;(first|rw [← Ny532.out] at ho4|(simp only [Int.reduceToNat] at ho4;rw [← Ny532.out] at ho4));have n0_:=Zz.mk (Kd.R_lower ho4 (qZ (by repeat (first|(with_reducible first|exact HB.out|apply qA|apply qN|apply q1_|refine qS ?_ GE531.out)|exact HB.out))));have n1_:=Zz.mk (bB (g:=gb531) (o:=.cells #[.slice none 0 0] 24 (0,0)) (by (with_reducible repeat first|apply bN|apply bD|apply bA);exact BK531.out) hb);have n2_:=Zz.mk (qP (by repeat (first|(with_reducible first|exact HB.out|apply qA|apply qN|apply q1_|refine qS ?_ GE531.out)|exact HB.out)) hb);clear BK531;clear HB;have HO534:=n0_;have BK531:=n1_;have HB:=n2_;clear n0_ n1_ n2_;clear hb ho4)|((with_reducible refine gate_dst (N:=12) rfl ?_);(try (refine gate_guard (by rfl) ?_;dsimp only));refine Kd.R_lit Kd.string _ 9 ?hg (N:=12) ?hd (xs:=([]:List ByteArray)) (inner:=[]) (ok:=fun _=>True) (okp:=fun _=>True) ?hr ?hp (fun _ hk=>hk) trivial (Below.refl _ _) (Nat.le_refl _) (by simp) ?_;(case hd=>rfl);(case hg=>rfl);(case hr=>first|(go_simp;done)|(go_simp;rfl));(case hp=>exact (Reps.none _ _));intro v536 w5 ho6 hb hg_ hnew_;clear hg_ hnew_;(first|rw [← Ny535.out] at ho6|(simp only [Int.reduceToNat] at ho6;rw [← Ny535.out] at ho6));have n0_:=Zz.mk (Kd.R_below (by (with_reducible repeat first|apply Kd.R_alloc|apply Kd.R_drewN|apply Kd.R_drew);exact HO534.out) hb);have n1_:=Zz.mk (Kd.R_lower ho6 (qZ (by repeat (first|(with_reducible first|exact HB.out|apply qA|apply qN|apply q1_|refine qS ?_ GE531.out)|exact HB.out))));have n2_:=Zz.mk (bB (g:=gb531) (o:=.cells #[.slice none 0 0] 24 (0,0)) (by (with_reducible repeat first|apply bN|apply bD|apply bA);exact BK531.out) hb);have n3_:=Zz.mk (qP (by repeat (first|(with_reducible first|exact HB.out|apply qA|apply qN|apply q1_|refine qS ?_ GE531.out)|exact HB.out)) hb);clear HO534;clear BK531;clear HB;have HO534:=n0_;have HO537:=n1_;have BK531:=n2_;have HB:=n3_;clear n0_ n1_ n2_ n3_;clear hb ho6));try go_wp2_with (first|((with_reducible refine gate_dst (N:=2) rfl ?_);(try (refine gate_guard (by rfl) ?_;dsimp only));refine box_event ?hg (N:=2) ?hd (cs:=#[.slice none 0 0]) (t:=24) ?hr ?_;(case hd=>rfl);(case hg=>rfl);(case hr=>first|(go_simp;done)|(go_simp;rfl));intro gb531 hg w2 hbox hb;have n0_:=Zz.mk (qP (by repeat (first|(with_reducible first|exact HB.out|apply qA|apply qN|apply q1_)|exact HB.out)) hb);have n1_:=Zz.mk (hbox);have n2_:=Zz.mk ((by rw [hg];exact (qZ (by repeat (first|(with_reducible first|exact HB.out|apply qA|apply qN|apply q1_)|exact HB.out))):w.heap.size≤gb531));have n3_:=Zz.mk ((by rw [hg];exact (qZ (by repeat (first|(with_reducible first|exact HB.out|apply qA|apply qN|apply q1_)|exact HB.out))):w.heap.size≤gb531));clear HB;have HB:=n0_;have BK531:=n1_;have GW531:=n2_;have GE531:=n3_;clear n0_ n1_ n2_ n3_;clear hb hbox hg)|((with_reducible refine gate_dst (N:=11) rfl ?_);(try (refine gate_guard (by rfl) ?_;dsimp only));refine Kd.R_lit (Kd.int .i64) _ 3 ?hg (N:=11) ?hd (xs:=([]:List Int)) (inner:=[]) (ok:=fun _=>True) (okp:=fun _=>True) ?hr ?hp (fun _ hk=>hk) trivial (Below.refl _ _) (Nat.le_refl _) (by simp) ?_;(case hd=>rfl);(case hg=>rfl);(case hr=>first|(go_simp;done)|(go_simp;rfl));(case hp=>exact (Reps.none _ _));intro v533 w3 ho4 hb hg_ hnew_;clear hg_ hnew_;(first|rw [← Ny532.out] at ho4|(simp only [Int.reduceToNat] at ho4;rw [← Ny532.out] at ho4));have n0_:=Zz.mk (Kd.R_lower ho4 (qZ (by repeat (first|(with_reducible first|exact HB.out|apply qA|apply qN|apply q1_|refine qS ?_ GE531.out)|exact HB.out))));have n1_:=Zz.mk (bB (g:=gb531) (o:=.cells #[.slice none 0 0] 24 (0,0)) (by (with_reducible repeat first|apply bN|apply bD|apply bA);exact BK531.out) hb);have n2_:=Zz.mk (qP (by repeat (first|(with_reducible first|exact HB.out|apply qA|apply qN|apply q1_|refine qS ?_ GE531.out)|exact HB.out)) hb);clear BK531;clear HB;have HO534:=n0_;have BK531:=n1_;have HB:=n2_;clear n0_ n1_ n2_;clear hb ho4)|((with_reducible refine gate_dst (N:=12) rfl ?_);(try (refine gate_guard (by rfl) ?_;dsimp only));refine Kd.R_lit Kd.string _ 9 ?hg (N:=12) ?hd (xs:=([]:List ByteArray)) (inner:=[]) (ok:=fun _=>True) (okp:=fun _=>True) ?hr ?hp (fun _ hk=>hk) trivial (Below.refl _ _) (Nat.le_refl _) (by simp) ?_;(case hd=>rfl);(case hg=>rfl);(case hr=>first|(go_simp;done)|(go_simp;rfl));(case hp=>exact (Reps.none _ _));intro v536 w5 ho6 hb hg_ hnew_;clear hg_ hnew_;(first|rw [← Ny535.out] at ho6|(simp only [Int.reduceToNat] at ho6;rw [← Ny535.out] at ho6));have n0_:=Zz.mk (Kd.R_below (by (with_reducible repeat first|apply Kd.R_alloc|apply Kd.R_drewN|apply Kd.R_drew);exact HO534.out) hb);have n1_:=Zz.mk (Kd.R_lower ho6 (qZ (by repeat (first|(with_reducible first|exact HB.out|apply qA|apply qN|apply q1_|refine qS ?_ GE531.out)|exact HB.out))));have n2_:=Zz.mk (bB (g:=gb531) (o:=.cells #[.slice none 0 0] 24 (0,0)) (by (with_reducible repeat first|apply bN|apply bD|apply bA);exact BK531.out) hb);have n3_:=Zz.mk (qP (by repeat (first|(with_reducible first|exact HB.out|apply qA|apply qN|apply q1_|refine qS ?_ GE531.out)|exact HB.out)) hb);clear HO534;clear BK531;clear HB;have HO534:=n0_;have HO537:=n1_;have BK531:=n2_;have HB:=n3_;clear n0_ n1_ n2_ n3_;clear hb ho6)))
  go_loopg [4,5,6,15] k (fun kq v4 v5 v6 v15 w'=>∃ (x4_1:List Int) (x5_1:ByteArray) (x6_1:List ByteArray) (x15_1:Int),v5=.string x5_1∧v15=.int .i64 x15_1∧Zz (impl_ParseTrie.l0 kq a0 x4_1 x5_1 x6_1 (a0.size:Int) x15_1=some (r1,r2))∧Zz (kq≤k)∧Zz (Kd.R (Kd.int .i64) 3 w' w.heap.size (fun _=>True) v4 x4_1)∧Zz (Kd.R Kd.string 9 w' w.heap.size (fun _=>True) v6 x6_1)∧Zz (w'.heap[gb531]?=some (.cells #[(.slice none 0 0)] 24 (0,0)))∧Zz (Below w.heap.size w w'))
  case atStart=>exact ⟨(y532),((⟨#[]⟩:ByteArray)),(y535),(0),(by first|rfl|(simp;done)|(simp [*];done)),(by first|rfl|(simp;done)|(simp [*];done)),H',⟨Nat.le_refl _⟩,⟨by (with_reducible repeat first|apply Kd.R_alloc|apply Kd.R_drewN|apply Kd.R_drew);exact HO534.out⟩,⟨by (with_reducible repeat first|apply Kd.R_alloc|apply Kd.R_drewN|apply Kd.R_drew);exact HO537.out⟩,⟨by (with_reducible repeat first|apply bN|apply bD|apply bA);exact BK531.out⟩,⟨by repeat (first|(with_reducible first|exact HB.out|apply qA|apply qN|apply q1_|refine qS ?_ GE531.out)|exact HB.out)⟩⟩
  case round =>
    clear H'
    try clear p2
    try clear c6
    obtain ⟨x4_1,x5_1,x6_1,x15_1,rfl,rfl,HA,HK1,HO_4,HO_6,BK531,HB⟩:=hrel
    cases gk with
    | zero=>exact absurd HA.out (by simp [impl_ParseTrie.l0])
    | succ k1 =>
      have H:=HA.out
      clear HA
      simp only [impl_ParseTrie.l0] at H
      by_cases c7:x15_1<(a0.size:Int)
      · rw [if_pos c7] at H
        have c7b0:decide (x15_1<(a0.size:Int))=true:=decide_eq_true c7
        clear c7
        by_cases c8:0≤x15_1
        · rw [if_pos c8] at H
          have c8b0:decide (0≤x15_1)=true:=decide_eq_true c8
          clear c8
          by_cases c9:x15_1<(a0.size:Int)
          · rw [if_pos c9] at H
            have c9b0:decide (x15_1<(a0.size:Int))=true:=decide_eq_true c9
            clear c9
            by_cases c11:(bt a0 x15_1)=46
            · rw [if_pos c11] at H
              have c11b0:((bt a0 x15_1) == 46)=true:=beq_iff_eq.mpr c11
              have c11b1:((bt a0 x15_1) != 46)=false:=bne_eq_false_iff_eq.mpr c11
              clear c11
              by_cases c12:x6_1.length<8796093022208
              · rw [if_pos c12] at H
                have LMc12:=Zz.mk c12
                clear c12
                obtain ⟨y538,hy538⟩:∃ y_:List ByteArray,y_=(x6_1 ++ [x5_1]):=⟨_,rfl⟩
                replace H:(if (x5_1.size:Int) > 12 then (some (([]:List (S62)),false)) else (if (y538.length:Int) > 40 then (some (([]:List (S62)),false)) else (if (x4_1.length:Int) > 12 then (some (([]:List (S62)),false)) else (impl_ParseTrie.l0 k1 a0 x4_1 x5_1 y538 (a0.size:Int) (wrap64 (x15_1+1))))))=some (r1,r2):=by first|(rw [hy538];with_reducible exact H)|(have H2_:=(Option.bind_some _ _).symm.trans H;rw [hy538];with_reducible exact H2_)|(have H2_:=(Option.bind_some _ _).symm.trans H;with_reducible exact H2_)|with_reducible exact H|(rw [hy538];exact H)|exact H
                have Ny538:=Zz.mk hy538
                clear hy538
                by_cases c13:(x5_1.size:Int) > 12
                · rw [if_pos c13] at H
                  have c13b0:decide (12<(x5_1.size:Int))=true:=decide_eq_true c13
                  have c13b1:decide (12<x5_1.size)=true:=decide_eq_true (by omega)
                  clear c13
                  simp only [Option.some.injEq,Prod.mk.injEq] at H
                  obtain ⟨rfl,rfl⟩:=H
                  have p10:0≤(x15_1:Int):=of_decide_eq_true (by first|(with_reducible assumption)|assumption)
                  have q10:x15_1<(a0.size:Int):=of_decide_eq_true (by first|(with_reducible assumption)|assumption)
                  have hx10:=bt_at a0 x15_1
                  replace p10:=eq_true p10
                  replace q10:=eq_true q10
                  go_wp2_with (first|((with_reducible refine gate_builtin (b:=.append) (xs:=#[.tmp 25,.tmp 27]) rfl ?_);(try (refine gate_guard (by rfl) ?_;dsimp only));at_builtin;refine Kd.R_append Kd.string (w0:=w) w.heap.size rfl (.tmp 25) (.tmp 27) 44 9 (.string ⟨#[]⟩) 16 rfl Try.underlying44 info9 rfl (by decide) (by omega) u6 x6_1 x5_1 [.string x5_1] (fun _=>True) (fun _=>False) rfl rfl ?aP (fun _ hk=>hk.elim) ?aF ?aO ?aB ?aS ?aL ?_;(case aP=>exact rfl);(case aB=>exact (by repeat (first|(with_reducible first|exact HB.out|apply qA|apply qN|apply q1_|refine qS ?_ GE531.out)|exact HB.out)));(case aF=>exact (fun _ _=>trivial));(case aO=>exact (by (with_reducible repeat first|apply Kd.R_alloc|apply Kd.R_drewN|apply Kd.R_drew);exact HO_6.out));(case aS=>exact (qZ (by repeat (first|(with_reducible first|exact HB.out|apply qA|apply qN|apply q1_|refine qS ?_ GE531.out)|exact HB.out))));(case aL=>have:=LMc12.out;omega);intro v539 w14 ho hb hg hat;rw [← Ny538.out] at ho;have n0_:=Zz.mk (Kd.R_over' (by (with_reducible repeat first|apply Kd.R_alloc|apply Kd.R_drewN|apply Kd.R_drew);exact HO_4.out) (Kd.R_typed (by (with_reducible repeat first|apply Kd.R_alloc|apply Kd.R_drewN|apply Kd.R_drew);exact HO_6.out)) (by decide) hg);have n1_:=Zz.mk (blk_grown (g:=gb531) (o:=.cells #[.slice none 0 0] 24 (0,0)) (by (with_reducible repeat first|apply bN|apply bD|apply bA);exact BK531.out) hg (Kd.R_ne HO_6.out BK531.out (by decide)));have n2_:=Zz.mk (hb);have n3_:=Zz.mk (ho);clear HO_4;clear BK531;clear HB;clear HO_6;have HO_4:=n0_;have BK531:=n1_;have HB:=n2_;have HO540:=n3_;clear n0_ n1_ n2_ n3_;clear ho hb hg hat;have hcz15_0:w14.cell? ⟨gb531,0,none⟩=some (.slice none 0 0):=(bC BK531.out 0).trans rfl;have hfz15_0:=bF BK531.out 0))
                  repeat (go_quiet (first|((with_reducible refine gate_builtin (b:=.append) (xs:=#[.tmp 25,.tmp 27]) rfl ?_);(try (refine gate_guard (by rfl) ?_;dsimp only));at_builtin;refine Kd.R_append Kd.string (w0:=w) w.heap.size rfl (.tmp 25) (.tmp 27) 44 9 (.string ⟨#[]⟩) 16 rfl Try.underlying44 info9 rfl (by decide) (by omega) u6 x6_1 x5_1 [.string x5_1] (fun _=>True) (fun _=>False) rfl rfl ?aP (fun _ hk=>hk.elim) ?aF ?aO ?aB ?aS ?aL ?_;(case aP=>exact rfl);(case aB=>exact (by repeat (first|(with_reducible first|exact HB.out|apply qA|apply qN|apply q1_|refine qS ?_ GE531.out)|exact HB.out)));(case aF=>exact (fun _ _=>trivial));(case aO=>exact (by (with_reducible repeat first|apply Kd.R_alloc|apply Kd.R_drewN|apply Kd.R_drew);exact HO_6.out));(case aS=>exact (qZ (by repeat (first|(with_reducible first|exact HB.out|apply qA|apply qN|apply q1_|refine qS ?_ GE531.out)|exact HB.out))));(case aL=>have:=LMc12.out;omega);intro v539 w14 ho hb hg hat;rw [← Ny538.out] at ho;have n0_:=Zz.mk (Kd.R_over' (by (with_reducible repeat first|apply Kd.R_alloc|apply Kd.R_drewN|apply Kd.R_drew);exact HO_4.out) (Kd.R_typed (by (with_reducible repeat first|apply Kd.R_alloc|apply Kd.R_drewN|apply Kd.R_drew);exact HO_6.out)) (by decide) hg);have n1_:=Zz.mk (blk_grown (g:=gb531) (o:=.cells #[.slice none 0 0] 24 (0,0)) (by (with_reducible repeat first|apply bN|apply bD|apply bA);exact BK531.out) hg (Kd.R_ne HO_6.out BK531.out (by decide)));have n2_:=Zz.mk (hb);have n3_:=Zz.mk (ho);clear HO_4;clear BK531;clear HB;clear HO_6;have HO_4:=n0_;have BK531:=n1_;have HB:=n2_;have HO540:=n3_;clear n0_ n1_ n2_ n3_;clear ho hb hg hat;have hcz15_0:w14.cell? ⟨gb531,0,none⟩=some (.slice none 0 0):=(bC BK531.out 0).trans rfl;have hfz15_0:=bF BK531.out 0));try go_wp2_with (first|((with_reducible refine gate_builtin (b:=.append) (xs:=#[.tmp 25,.tmp 27]) rfl ?_);(try (refine gate_guard (by rfl) ?_;dsimp only));at_builtin;refine Kd.R_append Kd.string (w0:=w) w.heap.size rfl (.tmp 25) (.tmp 27) 44 9 (.string ⟨#[]⟩) 16 rfl Try.underlying44 info9 rfl (by decide) (by omega) u6 x6_1 x5_1 [.string x5_1] (fun _=>True) (fun _=>False) rfl rfl ?aP (fun _ hk=>hk.elim) ?aF ?aO ?aB ?aS ?aL ?_;(case aP=>exact rfl);(case aB=>exact (by repeat (first|(with_reducible first|exact HB.out|apply qA|apply qN|apply q1_|refine qS ?_ GE531.out)|exact HB.out)));(case aF=>exact (fun _ _=>trivial));(case aO=>exact (by (with_reducible repeat first|apply Kd.R_alloc|apply Kd.R_drewN|apply Kd.R_drew);exact HO_6.out));(case aS=>exact (qZ (by repeat (first|(with_reducible first|exact HB.out|apply qA|apply qN|apply q1_|refine qS ?_ GE531.out)|exact HB.out))));(case aL=>have:=LMc12.out;omega);intro v539 w14 ho hb hg hat;rw [← Ny538.out] at ho;have n0_:=Zz.mk (Kd.R_over' (by (with_reducible repeat first|apply Kd.R_alloc|apply Kd.R_drewN|apply Kd.R_drew);exact HO_4.out) (Kd.R_typed (by (with_reducible repeat first|apply Kd.R_alloc|apply Kd.R_drewN|apply Kd.R_drew);exact HO_6.out)) (by decide) hg);have n1_:=Zz.mk (blk_grown (g:=gb531) (o:=.cells #[.slice none 0 0] 24 (0,0)) (by (with_reducible repeat first|apply bN|apply bD|apply bA);exact BK531.out) hg (Kd.R_ne HO_6.out BK531.out (by decide)));have n2_:=Zz.mk (hb);have n3_:=Zz.mk (ho);clear HO_4;clear BK531;clear HB;clear HO_6;have HO_4:=n0_;have BK531:=n1_;have HB:=n2_;have HO540:=n3_;clear n0_ n1_ n2_ n3_;clear ho hb hg hat;have hcz15_0:w14.cell? ⟨gb531,0,none⟩=some (.slice none 0 0):=(bC BK531.out 0).trans rfl;have hfz15_0:=bF BK531.out 0)))
                  refine bodyPost_ret (results_ct rfl _ _ gb531 24 #[.slice none 0 0] (0,0) _ rfl (by (with_reducible repeat first|apply bN|apply bD|apply bA);refine blk_put (cs:=#[.slice none 0 0]) ?_ 0 _ rfl;(with_reducible repeat first|apply bN|apply bD|apply bA);exact BK531.out) Try.underlying24 rfl (by kernel_rfl)) rfl ?_
                  exact ⟨_,by first|rfl|(simp [errW_none,errW_some] <;> rfl)|(simp [*,errW_none,errW_some] <;> rfl),by first|exact Kd.R_nil _ _ _ _ _|exact Kd.N_nil _ _ _ _ _|exact Kd.V_nil _ _ _ _ _|exact Kd.Q_nil _ _ _ _ _|exact Kd.S_nil _ _ _ _ _,by repeat (first|(with_reducible first|exact HB.out|apply qA|apply qN|apply q1_|refine qS ?_ GE531.out)|exact HB.out)⟩
                · rw [if_neg c13] at H
                  have c13b0:decide (12<(x5_1.size:Int))=false:=decide_eq_false c13
                  have c13b1:decide (12<x5_1.size)=false:=decide_eq_false (by omega)
                  clear c13
                  by_cases c16:(y538.length:Int) > 40
                  · rw [if_pos c16] at H
                    have c16b0:decide (40<(y538.length:Int))=true:=decide_eq_true c16
                    have c16b1:decide (40<y538.length)=true:=decide_eq_true (by omega)
                    clear c16
                    simp only [Option.some.injEq,Prod.mk.injEq] at H
                    obtain ⟨rfl,rfl⟩:=H
                    have p10:0≤(x15_1:Int):=of_decide_eq_true (by first|(with_reducible assumption)|assumption)
                    have q10:x15_1<(a0.size:Int):=of_decide_eq_true (by first|(with_reducible assumption)|assumption)
                    have hx10:=bt_at a0 x15_1
                    replace p10:=eq_true p10
                    replace q10:=eq_true q10
                    go_wp2_with (first|((with_reducible refine gate_builtin (b:=.append) (xs:=#[.tmp 25,.tmp 27]) rfl ?_);(try (refine gate_guard (by rfl) ?_;dsimp only));at_builtin;refine Kd.R_append Kd.string (w0:=w) w.heap.size rfl (.tmp 25) (.tmp 27) 44 9 (.string ⟨#[]⟩) 16 rfl Try.underlying44 info9 rfl (by decide) (by omega) u6 x6_1 x5_1 [.string x5_1] (fun _=>True) (fun _=>False) rfl rfl ?aP (fun _ hk=>hk.elim) ?aF ?aO ?aB ?aS ?aL ?_;(case aP=>exact rfl);(case aB=>exact (by repeat (first|(with_reducible first|exact HB.out|apply qA|apply qN|apply q1_|refine qS ?_ GE531.out)|exact HB.out)));(case aF=>exact (fun _ _=>trivial));(case aO=>exact (by (with_reducible repeat first|apply Kd.R_alloc|apply Kd.R_drewN|apply Kd.R_drew);exact HO_6.out));(case aS=>exact (qZ (by repeat (first|(with_reducible first|exact HB.out|apply qA|apply qN|apply q1_|refine qS ?_ GE531.out)|exact HB.out))));(case aL=>have:=LMc12.out;omega);intro v539 w17 ho hb hg hat;rw [← Ny538.out] at ho;have n0_:=Zz.mk (Kd.R_over' (by (with_reducible repeat first|apply Kd.R_alloc|apply Kd.R_drewN|apply Kd.R_drew);exact HO_4.out) (Kd.R_typed (by (with_reducible repeat first|apply Kd.R_alloc|apply Kd.R_drewN|apply Kd.R_drew);exact HO_6.out)) (by decide) hg);have n1_:=Zz.mk (blk_grown (g:=gb531) (o:=.cells #[.slice none 0 0] 24 (0,0)) (by (with_reducible repeat first|apply bN|apply bD|apply bA);exact BK531.out) hg (Kd.R_ne HO_6.out BK531.out (by decide)));have n2_:=Zz.mk (hb);have n3_:=Zz.mk (ho);clear HO_4;clear BK531;clear HB;clear HO_6;have HO_4:=n0_;have BK531:=n1_;have HB:=n2_;have HO540:=n3_;clear n0_ n1_ n2_ n3_;clear ho hb hg hat;obtain ⟨Ao18,co18,eo18⟩:=Kd.R_slice HO540.out;subst eo18;have hcz19_0:w17.cell? ⟨gb531,0,none⟩=some (.slice none 0 0):=(bC BK531.out 0).trans rfl;have hfz19_0:=bF BK531.out 0))
                    repeat (go_quiet (first|((with_reducible refine gate_builtin (b:=.append) (xs:=#[.tmp 25,.tmp 27]) rfl ?_);(try (refine gate_guard (by rfl) ?_;dsimp only));at_builtin;refine Kd.R_append Kd.string (w0:=w) w.heap.size rfl (.tmp 25) (.tmp 27) 44 9 (.string ⟨#[]⟩) 16 rfl Try.underlying44 info9 rfl (by decide) (by omega) u6 x6_1 x5_1 [.string x5_1] (fun _=>True) (fun _=>False) rfl rfl ?aP (fun _ hk=>hk.elim) ?aF ?aO ?aB ?aS ?aL ?_;(case aP=>exact rfl);(case aB=>exact (by repeat (first|(with_reducible first|exact HB.out|apply qA|apply qN|apply q1_|refine qS ?_ GE531.out)|exact HB.out)));(case aF=>exact (fun _ _=>trivial));(case aO=>exact (by (with_reducible repeat first|apply Kd.R_alloc|apply Kd.R_drewN|apply Kd.R_drew);exact HO_6.out));(case aS=>exact (qZ (by repeat (first|(with_reducible first|exact HB.out|apply qA|apply qN|apply q1_|refine qS ?_ GE531.out)|exact HB.out))));(case aL=>have:=LMc12.out;omega);intro v539 w17 ho hb hg hat;rw [← Ny538.out] at ho;have n0_:=Zz.mk (Kd.R_over' (by (with_reducible repeat first|apply Kd.R_alloc|apply Kd.R_drewN|apply Kd.R_drew);exact HO_4.out) (Kd.R_typed (by (with_reducible repeat first|apply Kd.R_alloc|apply Kd.R_drewN|apply Kd.R_drew);exact HO_6.out)) (by decide) hg);have n1_:=Zz.mk (blk_grown (g:=gb531) (o:=.cells #[.slice none 0 0] 24 (0,0)) (by (with_reducible repeat first|apply bN|apply bD|apply bA);exact BK531.out) hg (Kd.R_ne HO_6.out BK531.out (by decide)));have n2_:=Zz.mk (hb);have n3_:=Zz.mk (ho);clear HO_4;clear BK531;clear HB;clear HO_6;have HO_4:=n0_;have BK531:=n1_;have HB:=n2_;have HO540:=n3_;clear n0_ n1_ n2_ n3_;clear ho hb hg hat;obtain ⟨Ao18,co18,eo18⟩:=Kd.R_slice HO540.out;subst eo18;have hcz19_0:w17.cell? ⟨gb531,0,none⟩=some (.slice none 0 0):=(bC BK531.out 0).trans rfl;have hfz19_0:=bF BK531.out 0));try go_wp2_with (first|((with_reducible refine gate_builtin (b:=.append) (xs:=#[.tmp 25,.tmp 27]) rfl ?_);(try (refine gate_guard (by rfl) ?_;dsimp only));at_builtin;refine Kd.R_append Kd.string (w0:=w) w.heap.size rfl (.tmp 25) (.tmp 27) 44 9 (.string ⟨#[]⟩) 16 rfl Try.underlying44 info9 rfl (by decide) (by omega) u6 x6_1 x5_1 [.string x5_1] (fun _=>True) (fun _=>False) rfl rfl ?aP (fun _ hk=>hk.elim) ?aF ?aO ?aB ?aS ?aL ?_;(case aP=>exact rfl);(case aB=>exact (by repeat (first|(with_reducible first|exact HB.out|apply qA|apply qN|apply q1_|refine qS ?_ GE531.out)|exact HB.out)));(case aF=>exact (fun _ _=>trivial));(case aO=>exact (by (with_reducible repeat first|apply Kd.R_alloc|apply Kd.R_drewN|apply Kd.R_drew);exact HO_6.out));(case aS=>exact (qZ (by repeat (first|(with_reducible first|exact HB.out|apply qA|apply qN|apply q1_|refine qS ?_ GE531.out)|exact HB.out))));(case aL=>have:=LMc12.out;omega);intro v539 w17 ho hb hg hat;rw [← Ny538.out] at ho;have n0_:=Zz.mk (Kd.R_over' (by (with_reducible repeat first|apply Kd.R_alloc|apply Kd.R_drewN|apply Kd.R_drew);exact HO_4.out) (Kd.R_typed (by (with_reducible repeat first|apply Kd.R_alloc|apply Kd.R_drewN|apply Kd.R_drew);exact HO_6.out)) (by decide) hg);have n1_:=Zz.mk (blk_grown (g:=gb531) (o:=.cells #[.slice none 0 0] 24 (0,0)) (by (with_reducible repeat first|apply bN|apply bD|apply bA);exact BK531.out) hg (Kd.R_ne HO_6.out BK531.out (by decide)));have n2_:=Zz.mk (hb);have n3_:=Zz.mk (ho);clear HO_4;clear BK531;clear HB;clear HO_6;have HO_4:=n0_;have BK531:=n1_;have HB:=n2_;have HO540:=n3_;clear n0_ n1_ n2_ n3_;clear ho hb hg hat;obtain ⟨Ao18,co18,eo18⟩:=Kd.R_slice HO540.out;subst eo18;have hcz19_0:w17.cell? ⟨gb531,0,none⟩=some (.slice none 0 0):=(bC BK531.out 0).trans rfl;have hfz19_0:=bF BK531.out 0)))
                    refine bodyPost_ret (results_ct rfl _ _ gb531 24 #[.slice none 0 0] (0,0) _ rfl (by (with_reducible repeat first|apply bN|apply bD|apply bA);refine blk_put (cs:=#[.slice none 0 0]) ?_ 0 _ rfl;(with_reducible repeat first|apply bN|apply bD|apply bA);exact BK531.out) Try.underlying24 rfl (by kernel_rfl)) rfl ?_
                    exact ⟨_,by first|rfl|(simp [errW_none,errW_some] <;> rfl)|(simp [*,errW_none,errW_some] <;> rfl),by first|exact Kd.R_nil _ _ _ _ _|exact Kd.N_nil _ _ _ _ _|exact Kd.V_nil _ _ _ _ _|exact Kd.Q_nil _ _ _ _ _|exact Kd.S_nil _ _ _ _ _,by repeat (first|(with_reducible first|exact HB.out|apply qA|apply qN|apply q1_|refine qS ?_ GE531.out)|exact HB.out)⟩
                  · rw [if_neg c16] at H
                    have c16b0:decide (40<(y538.length:Int))=false:=decide_eq_false c16
                    have c16b1:decide (40<y538.length)=false:=decide_eq_false (by omega)
                    clear c16
                    by_cases c20:(x4_1.length:Int) > 12
                    · rw [if_pos c20] at H
                      have c20b0:decide (12<(x4_1.length:Int))=true:=decide_eq_true c20
                      have c20b1:decide (12<x4_1.length)=true:=decide_eq_true (by omega)
                      clear c20
                      simp only [Option.some.injEq,Prod.mk.injEq] at H
                      obtain ⟨rfl,rfl⟩:=H
                      have p10:0≤(x15_1:Int):=of_decide_eq_true (by first|(with_reducible assumption)|assumption)
                      have q10:x15_1<(a0.size:Int):=of_decide_eq_true (by first|(with_reducible assumption)|assumption)
                      have hx10:=bt_at a0 x15_1
                      replace p10:=eq_true p10
                      replace q10:=eq_true q10
                      go_wp2_with (first|((with_reducible refine gate_builtin (b:=.append) (xs:=#[.tmp 25,.tmp 27]) rfl ?_);(try (refine gate_guard (by rfl) ?_;dsimp only));at_builtin;refine Kd.R_append Kd.string (w0:=w) w.heap.size rfl (.tmp 25) (.tmp 27) 44 9 (.string ⟨#[]⟩) 16 rfl Try.underlying44 info9 rfl (by decide) (by omega) u6 x6_1 x5_1 [.string x5_1] (fun _=>True) (fun _=>False) rfl rfl ?aP (fun _ hk=>hk.elim) ?aF ?aO ?aB ?aS ?aL ?_;(case aP=>exact rfl);(case aB=>exact (by repeat (first|(with_reducible first|exact HB.out|apply qA|apply qN|apply q1_|refine qS ?_ GE531.out)|exact HB.out)));(case aF=>exact (fun _ _=>trivial));(case aO=>exact (by (with_reducible repeat first|apply Kd.R_alloc|apply Kd.R_drewN|apply Kd.R_drew);exact HO_6.out));(case aS=>exact (qZ (by repeat (first|(with_reducible first|exact HB.out|apply qA|apply qN|apply q1_|refine qS ?_ GE531.out)|exact HB.out))));(case aL=>have:=LMc12.out;omega);intro v539 w21 ho hb hg hat;rw [← Ny538.out] at ho;have n0_:=Zz.mk (Kd.R_over' (by (with_reducible repeat first|apply Kd.R_alloc|apply Kd.R_drewN|apply Kd.R_drew);exact HO_4.out) (Kd.R_typed (by (with_reducible repeat first|apply Kd.R_alloc|apply Kd.R_drewN|apply Kd.R_drew);exact HO_6.out)) (by decide) hg);have n1_:=Zz.mk (blk_grown (g:=gb531) (o:=.cells #[.slice none 0 0] 24 (0,0)) (by (with_reducible repeat first|apply bN|apply bD|apply bA);exact BK531.out) hg (Kd.R_ne HO_6.out BK531.out (by decide)));have n2_:=Zz.mk (hb);have n3_:=Zz.mk (ho);clear HO_4;clear BK531;clear HB;clear HO_6;have HO_4:=n0_;have BK531:=n1_;have HB:=n2_;have HO540:=n3_;clear n0_ n1_ n2_ n3_;clear ho hb hg hat;obtain ⟨Ao22,co22,eo22⟩:=Kd.R_slice HO540.out;subst eo22;obtain ⟨Ao23,co23,eo23⟩:=Kd.R_slice HO_4.out;subst eo23;have hcz24_0:w21.cell? ⟨gb531,0,none⟩=some (.slice none 0 0):=(bC BK531.out 0).trans rfl;have hfz24_0:=bF BK531.out 0))
                      repeat (go_quiet (first|((with_reducible refine gate_builtin (b:=.append) (xs:=#[.tmp 25,.tmp 27]) rfl ?_);(try (refine gate_guard (by rfl) ?_;dsimp only));at_builtin;refine Kd.R_append Kd.string (w0:=w) w.heap.size rfl (.tmp 25) (.tmp 27) 44 9 (.string ⟨#[]⟩) 16 rfl Try.underlying44 info9 rfl (by decide) (by omega) u6 x6_1 x5_1 [.string x5_1] (fun _=>True) (fun _=>False) rfl rfl ?aP (fun _ hk=>hk.elim) ?aF ?aO ?aB ?aS ?aL ?_;(case aP=>exact rfl);(case aB=>exact (by repeat (first|(with_reducible first|exact HB.out|apply qA|apply qN|apply q1_|refine qS ?_ GE531.out)|exact HB.out)));(case aF=>exact (fun _ _=>trivial));(case aO=>exact (by (with_reducible repeat first|apply Kd.R_alloc|apply Kd.R_drewN|apply Kd.R_drew);exact HO_6.out));(case aS=>exact (qZ (by repeat (first|(with_reducible first|exact HB.out|apply qA|apply qN|apply q1_|refine qS ?_ GE531.out)|exact HB.out))));(case aL=>have:=LMc12.out;omega);intro v539 w21 ho hb hg hat;rw [← Ny538.out] at ho;have n0_:=Zz.mk (Kd.R_over' (by (with_reducible repeat first|apply Kd.R_alloc|apply Kd.R_drewN|apply Kd.R_drew);exact HO_4.out) (Kd.R_typed (by (with_reducible repeat first|apply Kd.R_alloc|apply Kd.R_drewN|apply Kd.R_drew);exact HO_6.out)) (by decide) hg);have n1_:=Zz.mk (blk_grown (g:=gb531) (o:=.cells #[.slice none 0 0] 24 (0,0)) (by (with_reducible repeat first|apply bN|apply bD|apply bA);exact BK531.out) hg (Kd.R_ne HO_6.out BK531.out (by decide)));have n2_:=Zz.mk (hb);have n3_:=Zz.mk (ho);clear HO_4;clear BK531;clear HB;clear HO_6;have HO_4:=n0_;have BK531:=n1_;have HB:=n2_;have HO540:=n3_;clear n0_ n1_ n2_ n3_;clear ho hb hg hat;obtain ⟨Ao22,co22,eo22⟩:=Kd.R_slice HO540.out;subst eo22;obtain ⟨Ao23,co23,eo23⟩:=Kd.R_slice HO_4.out;subst eo23;have hcz24_0:w21.cell? ⟨gb531,0,none⟩=some (.slice none 0 0):=(bC BK531.out 0).trans rfl;have hfz24_0:=bF BK531.out 0));try go_wp2_with (first|((with_reducible refine gate_builtin (b:=.append) (xs:=#[.tmp 25,.tmp 27]) rfl ?_);(try (refine gate_guard (by rfl) ?_;dsimp only));at_builtin;refine Kd.R_append Kd.string (w0:=w) w.heap.size rfl (.tmp 25) (.tmp 27) 44 9 (.string ⟨#[]⟩) 16 rfl Try.underlying44 info9 rfl (by decide) (by omega) u6 x6_1 x5_1 [.string x5_1] (fun _=>True) (fun _=>False) rfl rfl ?aP (fun _ hk=>hk.elim) ?aF ?aO ?aB ?aS ?aL ?_;(case aP=>exact rfl);(case aB=>exact (by repeat (first|(with_reducible first|exact HB.out|apply qA|apply qN|apply q1_|refine qS ?_ GE531.out)|exact HB.out)));(case aF=>exact (fun _ _=>trivial));(case aO=>exact (by (with_reducible repeat first|apply Kd.R_alloc|apply Kd.R_drewN|apply Kd.R_drew);exact HO_6.out));(case aS=>exact (qZ (by repeat (first|(with_reducible first|exact HB.out|apply qA|apply qN|apply q1_|refine qS ?_ GE531.out)|exact HB.out))));(case aL=>have:=LMc12.out;omega);intro v539 w21 ho hb hg hat;rw [← Ny538.out] at ho;have n0_:=Zz.mk (Kd.R_over' (by (with_reducible repeat first|apply Kd.R_alloc|apply Kd.R_drewN|apply Kd.R_drew);exact HO_4.out) (Kd.R_typed (by (with_reducible repeat first|apply Kd.R_alloc|apply Kd.R_drewN|apply Kd.R_drew);exact HO_6.out)) (by decide) hg);have n1_:=Zz.mk (blk_grown (g:=gb531) (o:=.cells #[.slice none 0 0] 24 (0,0)) (by (with_reducible repeat first|apply bN|apply bD|apply bA);exact BK531.out) hg (Kd.R_ne HO_6.out BK531.out (by decide)));have n2_:=Zz.mk (hb);have n3_:=Zz.mk (ho);clear HO_4;clear BK531;clear HB;clear HO_6;have HO_4:=n0_;have BK531:=n1_;have HB:=n2_;have HO540:=n3_;clear n0_ n1_ n2_ n3_;clear ho hb hg hat;obtain ⟨Ao22,co22,eo22⟩:=Kd.R_slice HO540.out;subst eo22;obtain ⟨Ao23,co23,eo23⟩:=Kd.R_slice HO_4.out;subst eo23;have hcz24_0:w21.cell? ⟨gb531,0,none⟩=some (.slice none 0 0):=(bC BK531.out 0).trans rfl;have hfz24_0:=bF BK531.out 0)))
                      refine bodyPost_ret (results_ct rfl _ _ gb531 24 #[.slice none 0 0] (0,0) _ rfl (by (with_reducible repeat first|apply bN|apply bD|apply bA);refine blk_put (cs:=#[.slice none 0 0]) ?_ 0 _ rfl;(with_reducible repeat first|apply bN|apply bD|apply bA);exact BK531.out) Try.underlying24 rfl (by kernel_rfl)) rfl ?_
                      exact ⟨_,by first|rfl|(simp [errW_none,errW_some] <;> rfl)|(simp [*,errW_none,errW_some] <;> rfl),by first|exact Kd.R_nil _ _ _ _ _|exact Kd.N_nil _ _ _ _ _|exact Kd.V_nil _ _ _ _ _|exact Kd.Q_nil _ _ _ _ _|exact Kd.S_nil _ _ _ _ _,by repeat (first|(with_reducible first|exact HB.out|apply qA|apply qN|apply q1_|refine qS ?_ GE531.out)|exact HB.out)⟩
                    · rw [if_neg c20] at H
                      have c20b0:decide (12<(x4_1.length:Int))=false:=decide_eq_false c20
                      have c20b1:decide (12<x4_1.length)=false:=decide_eq_false (by omega)
                      clear c20
                      have H':=Zz.mk H
                      clear H
                      have p10:0≤(x15_1:Int):=of_decide_eq_true (by first|(with_reducible assumption)|assumption)
                      have q10:x15_1<(a0.size:Int):=of_decide_eq_true (by first|(with_reducible assumption)|assumption)
                      have hx10:=bt_at a0 x15_1
                      replace p10:=eq_true p10
                      replace q10:=eq_true q10
                      go_wp2_with (first|((with_reducible refine gate_builtin (b:=.append) (xs:=#[.tmp 25,.tmp 27]) rfl ?_);(try (refine gate_guard (by rfl) ?_;dsimp only));at_builtin;refine Kd.R_append Kd.string (w0:=w) w.heap.size rfl (.tmp 25) (.tmp 27) 44 9 (.string ⟨#[]⟩) 16 rfl Try.underlying44 info9 rfl (by decide) (by omega) u6 x6_1 x5_1 [.string x5_1] (fun _=>True) (fun _=>False) rfl rfl ?aP (fun _ hk=>hk.elim) ?aF ?aO ?aB ?aS ?aL ?_;(case aP=>exact rfl);(case aB=>exact (by repeat (first|(with_reducible first|exact HB.out|apply qA|apply qN|apply q1_|refine qS ?_ GE531.out)|exact HB.out)));(case aF=>exact (fun _ _=>trivial));(case aO=>exact (by (with_reducible repeat first|apply Kd.R_alloc|apply Kd.R_drewN|apply Kd.R_drew);exact HO_6.out));(case aS=>exact (qZ (by repeat (first|(with_reducible first|exact HB.out|apply qA|apply qN|apply q1_|refine qS ?_ GE531.out)|exact HB.out))));(case aL=>have:=LMc12.out;omega);intro v539 w25 ho hb hg hat;rw [← Ny538.out] at ho;have n0_:=Zz.mk (Kd.R_over' (by (with_reducible repeat first|apply Kd.R_alloc|apply Kd.R_drewN|apply Kd.R_drew);exact HO_4.out) (Kd.R_typed (by (with_reducible repeat first|apply Kd.R_alloc|apply Kd.R_drewN|apply Kd.R_drew);exact HO_6.out)) (by decide) hg);have n1_:=Zz.mk (blk_grown (g:=gb531) (o:=.cells #[.slice none 0 0] 24 (0,0)) (by (with_reducible repeat first|apply bN|apply bD|apply bA);exact BK531.out) hg (Kd.R_ne HO_6.out BK531.out (by decide)));have n2_:=Zz.mk (hb);have n3_:=Zz.mk (ho);clear HO_4;clear BK531;clear HB;clear HO_6;have HO_4:=n0_;have BK531:=n1_;have HB:=n2_;have HO540:=n3_;clear n0_ n1_ n2_ n3_;clear ho hb hg hat;obtain ⟨Ao26,co26,eo26⟩:=Kd.R_slice HO540.out;subst eo26;obtain ⟨Ao27,co27,eo27⟩:=Kd.R_slice HO_4.out;subst eo27))
                      repeat (go_quiet (first|((with_reducible refine gate_builtin (b:=.append) (xs:=#[.tmp 25,.tmp 27]) rfl ?_);(try (refine gate_guard (by rfl) ?_;dsimp only));at_builtin;refine Kd.R_append Kd.string (w0:=w) w.heap.size rfl (.tmp 25) (.tmp 27) 44 9 (.string ⟨#[]⟩) 16 rfl Try.underlying44 info9 rfl (by decide) (by omega) u6 x6_1 x5_1 [.string x5_1] (fun _=>True) (fun _=>False) rfl rfl ?aP (fun _ hk=>hk.elim) ?aF ?aO ?aB ?aS ?aL ?_;(case aP=>exact rfl);(case aB=>exact (by repeat (first|(with_reducible first|exact HB.out|apply qA|apply qN|apply q1_|refine qS ?_ GE531.out)|exact HB.out)));(case aF=>exact (fun _ _=>trivial));(case aO=>exact (by (with_reducible repeat first|apply Kd.R_alloc|apply Kd.R_drewN|apply Kd.R_drew);exact HO_6.out));(case aS=>exact (qZ (by repeat (first|(with_reducible first|exact HB.out|apply qA|apply qN|apply q1_|refine qS ?_ GE531.out)|exact HB.out))));(case aL=>have:=LMc12.out;omega);intro v539 w25 ho hb hg hat;rw [← Ny538.out] at ho;have n0_:=Zz.mk (Kd.R_over' (by (with_reducible repeat first|apply Kd.R_alloc|apply Kd.R_drewN|apply Kd.R_drew);exact HO_4.out) (Kd.R_typed (by (with_reducible repeat first|apply Kd.R_alloc|apply Kd.R_drewN|apply Kd.R_drew);exact HO_6.out)) (by decide) hg);have n1_:=Zz.mk (blk_grown (g:=gb531) (o:=.cells #[.slice none 0 0] 24 (0,0)) (by (with_reducible repeat first|apply bN|apply bD|apply bA);exact BK531.out) hg (Kd.R_ne HO_6.out BK531.out (by decide)));have n2_:=Zz.mk (hb);have n3_:=Zz.mk (ho);clear HO_4;clear BK531;clear HB;clear HO_6;have HO_4:=n0_;have BK531:=n1_;have HB:=n2_;have HO540:=n3_;clear n0_ n1_ n2_ n3_;clear ho hb hg hat;obtain ⟨Ao26,co26,eo26⟩:=Kd.R_slice HO540.out;subst eo26;obtain ⟨Ao27,co27,eo27⟩:=Kd.R_slice HO_4.out;subst eo27));try go_wp2_with (first|((with_reducible refine gate_builtin (b:=.append) (xs:=#[.tmp 25,.tmp 27]) rfl ?_);(try (refine gate_guard (by rfl) ?_;dsimp only));at_builtin;refine Kd.R_append Kd.string (w0:=w) w.heap.size rfl (.tmp 25) (.tmp 27) 44 9 (.string ⟨#[]⟩) 16 rfl Try.underlying44 info9 rfl (by decide) (by omega) u6 x6_1 x5_1 [.string x5_1] (fun _=>True) (fun _=>False) rfl rfl ?aP (fun _ hk=>hk.elim) ?aF ?aO ?aB ?aS ?aL ?_;(case aP=>exact rfl);(case aB=>exact (by repeat (first|(with_reducible first|exact HB.out|apply qA|apply qN|apply q1_|refine qS ?_ GE531.out)|exact HB.out)));(case aF=>exact (fun _ _=>trivial));(case aO=>exact (by (with_reducible repeat first|apply Kd.R_alloc|apply Kd.R_drewN|apply Kd.R_drew);exact HO_6.out));(case aS=>exact (qZ (by repeat (first|(with_reducible first|exact HB.out|apply qA|apply qN|apply q1_|refine qS ?_ GE531.out)|exact HB.out))));(case aL=>have:=LMc12.out;omega);intro v539 w25 ho hb hg hat;rw [← Ny538.out] at ho;have n0_:=Zz.mk (Kd.R_over' (by (with_reducible repeat first|apply Kd.R_alloc|apply Kd.R_drewN|apply Kd.R_drew);exact HO_4.out) (Kd.R_typed (by (with_reducible repeat first|apply Kd.R_alloc|apply Kd.R_drewN|apply Kd.R_drew);exact HO_6.out)) (by decide) hg);have n1_:=Zz.mk (blk_grown (g:=gb531) (o:=.cells #[.slice none 0 0] 24 (0,0)) (by (with_reducible repeat first|apply bN|apply bD|apply bA);exact BK531.out) hg (Kd.R_ne HO_6.out BK531.out (by decide)));have n2_:=Zz.mk (hb);have n3_:=Zz.mk (ho);clear HO_4;clear BK531;clear HB;clear HO_6;have HO_4:=n0_;have BK531:=n1_;have HB:=n2_;have HO540:=n3_;clear n0_ n1_ n2_ n3_;clear ho hb hg hat;obtain ⟨Ao26,co26,eo26⟩:=Kd.R_slice HO540.out;subst eo26;obtain ⟨Ao27,co27,eo27⟩:=Kd.R_slice HO_4.out;subst eo27)))
                      go_roundg k1
                      case measure=>have:=HK1.out;omega
                      case rel=>exact ⟨(x4_1),(x5_1),(y538),(wrap64 (x15_1+1)),(by first|rfl|(simp;done)|(simp [*];done)),(by first|rfl|(simp;done)|(simp [*];done)),H',⟨by have:=HK1.out;omega⟩,⟨by (with_reducible repeat first|apply Kd.R_alloc|apply Kd.R_drewN|apply Kd.R_drew);exact HO_4.out⟩,⟨by (with_reducible repeat first|apply Kd.R_alloc|apply Kd.R_drewN|apply Kd.R_drew);exact HO540.out⟩,⟨by (with_reducible repeat first|apply bN|apply bD|apply bA);exact BK531.out⟩,⟨by repeat (first|(with_reducible first|exact HB.out|apply qA|apply qN|apply q1_|refine qS ?_ GE531.out)|exact HB.out)⟩⟩
              · rw [if_neg c12] at H
                exact absurd H (by simp)
            · rw [if_neg c11] at H
              have c11b0:((bt a0 x15_1) == 46)=false:=beq_eq_false_iff_ne.mpr c11
              have c11b1:((bt a0 x15_1) != 46)=true:=bne_iff_ne.mpr c11
              by_cases c28:(bt a0 x15_1)=40
              · rw [if_pos c28] at H
                have c28b0:((bt a0 x15_1) == 40)=true:=beq_iff_eq.mpr c28
                have c28b1:((bt a0 x15_1) != 40)=false:=bne_eq_false_iff_eq.mpr c28
                clear c28
                by_cases c29:x4_1.length<17592186044416
                · rw [if_pos c29] at H
                  have LMc29:=Zz.mk c29
                  clear c29
                  obtain ⟨y541,hy541⟩:∃ y_:List Int,y_=(x4_1 ++ [(x5_1.size:Int)]):=⟨_,rfl⟩
                  replace H:(if (x5_1.size:Int) > 12 then (some (([]:List (S62)),false)) else (if (x6_1.length:Int) > 40 then (some (([]:List (S62)),false)) else (if (y541.length:Int) > 12 then (some (([]:List (S62)),false)) else (impl_ParseTrie.l0 k1 a0 y541 x5_1 x6_1 (a0.size:Int) (wrap64 (x15_1+1))))))=some (r1,r2):=by first|(rw [hy541];with_reducible exact H)|(have H2_:=(Option.bind_some _ _).symm.trans H;rw [hy541];with_reducible exact H2_)|(have H2_:=(Option.bind_some _ _).symm.trans H;with_reducible exact H2_)|with_reducible exact H|(rw [hy541];exact H)|exact H
                  have Ny541:=Zz.mk hy541
                  clear hy541
                  by_cases c30:(x5_1.size:Int) > 12
                  · rw [if_pos c30] at H
                    have c30b0:decide (12<(x5_1.size:Int))=true:=decide_eq_true c30
                    have c30b1:decide (12<x5_1.size)=true:=decide_eq_true (by omega)
                    clear c30
                    simp only [Option.some.injEq,Prod.mk.injEq] at H
                    obtain ⟨rfl,rfl⟩:=H
                    have p10:0≤(x15_1:Int):=of_decide_eq_true (by first|(with_reducible assumption)|assumption)
                    have q10:x15_1<(a0.size:Int):=of_decide_eq_true (by first|(with_reducible assumption)|assumption)
                    have hx10:=bt_at a0 x15_1
                    replace p10:=eq_true p10
                    replace q10:=eq_true q10
                    go_wp2_with (first|((with_reducible refine gate_builtin (b:=.append) (xs:=#[.tmp 32,.tmp 35]) rfl ?_);(try (refine gate_guard (by rfl) ?_;dsimp only));at_builtin;refine Kd.R_append (Kd.int .i64) (w0:=w) w.heap.size rfl (.tmp 32) (.tmp 35) 43 3 (.int .i64 0) 8 rfl Try.underlying43 info3 rfl (by decide) (by omega) u4 x4_1 (x5_1.size:Int) [.int .i64 (x5_1.size:Int)] (fun _=>True) (fun _=>False) rfl rfl ?aP (fun _ hk=>hk.elim) ?aF ?aO ?aB ?aS ?aL ?_;(case aP=>exact rfl);(case aB=>exact (by repeat (first|(with_reducible first|exact HB.out|apply qA|apply qN|apply q1_|refine qS ?_ GE531.out)|exact HB.out)));(case aF=>exact (fun _ _=>trivial));(case aO=>exact (by (with_reducible repeat first|apply Kd.R_alloc|apply Kd.R_drewN|apply Kd.R_drew);exact HO_4.out));(case aS=>exact (qZ (by repeat (first|(with_reducible first|exact HB.out|apply qA|apply qN|apply q1_|refine qS ?_ GE531.out)|exact HB.out))));(case aL=>have:=LMc29.out;omega);intro v542 w31 ho hb hg hat;rw [← Ny541.out] at ho;have n0_:=Zz.mk (Kd.R_over' (by (with_reducible repeat first|apply Kd.R_alloc|apply Kd.R_drewN|apply Kd.R_drew);exact HO_6.out) (Kd.R_typed (by (with_reducible repeat first|apply Kd.R_alloc|apply Kd.R_drewN|apply Kd.R_drew);exact HO_4.out)) (by decide) hg);have n1_:=Zz.mk (blk_grown (g:=gb531) (o:=.cells #[.slice none 0 0] 24 (0,0)) (by (with_reducible repeat first|apply bN|apply bD|apply bA);exact BK531.out) hg (Kd.R_ne HO_4.out BK531.out (by decide)));have n2_:=Zz.mk (hb);have n3_:=Zz.mk (ho);clear HO_6;clear BK531;clear HB;clear HO_4;have HO_6:=n0_;have BK531:=n1_;have HB:=n2_;have HO543:=n3_;clear n0_ n1_ n2_ n3_;clear ho hb hg hat;have hcz32_0:w31.cell? ⟨gb531,0,none⟩=some (.slice none 0 0):=(bC BK531.out 0).trans rfl;have hfz32_0:=bF BK531.out 0))
                    repeat (go_quiet (first|((with_reducible refine gate_builtin (b:=.append) (xs:=#[.tmp 32,.tmp 35]) rfl ?_);(try (refine gate_guard (by rfl) ?_;dsimp only));at_builtin;refine Kd.R_append (Kd.int .i64) (w0:=w) w.heap.size rfl (.tmp 32) (.tmp 35) 43 3 (.int .i64 0) 8 rfl Try.underlying43 info3 rfl (by decide) (by omega) u4 x4_1 (x5_1.size:Int) [.int .i64 (x5_1.size:Int)] (fun _=>True) (fun _=>False) rfl rfl ?aP (fun _ hk=>hk.elim) ?aF ?aO ?aB ?aS ?aL ?_;(case aP=>exact rfl);(case aB=>exact (by repeat (first|(with_reducible first|exact HB.out|apply qA|apply qN|apply q1_|refine qS ?_ GE531.out)|exact HB.out)));(case aF=>exact (fun _ _=>trivial));(case aO=>exact (by (with_reducible repeat first|apply Kd.R_alloc|apply Kd.R_drewN|apply Kd.R_drew);exact HO_4.out));(case aS=>exact (qZ (by repeat (first|(with_reducible first|exact HB.out|apply qA|apply qN|apply q1_|refine qS ?_ GE531.out)|exact HB.out))));(case aL=>have:=LMc29.out;omega);intro v542 w31 ho hb hg hat;rw [← Ny541.out] at ho;have n0_:=Zz.mk (Kd.R_over' (by (with_reducible repeat first|apply Kd.R_alloc|apply Kd.R_drewN|apply Kd.R_drew);exact HO_6.out) (Kd.R_typed (by (with_reducible repeat first|apply Kd.R_alloc|apply Kd.R_drewN|apply Kd.R_drew);exact HO_4.out)) (by decide) hg);have n1_:=Zz.mk (blk_grown (g:=gb531) (o:=.cells #[.slice none 0 0] 24 (0,0)) (by (with_reducible repeat first|apply bN|apply bD|apply bA);exact BK531.out) hg (Kd.R_ne HO_4.out BK531.out (by decide)));have n2_:=Zz.mk (hb);have n3_:=Zz.mk (ho);clear HO_6;clear BK531;clear HB;clear HO_4;have HO_6:=n0_;have BK531:=n1_;have HB:=n2_;have HO543:=n3_;clear n0_ n1_ n2_ n3_;clear ho hb hg hat;have hcz32_0:w31.cell? ⟨gb531,0,none⟩=some (.slice none 0 0):=(bC BK531.out 0).trans rfl;have hfz32_0:=bF BK531.out 0));try go_wp2_with (first|((with_reducible refine gate_builtin (b:=.append) (xs:=#[.tmp 32,.tmp 35]) rfl ?_);(try (refine gate_guard (by rfl) ?_;dsimp only));at_builtin;refine Kd.R_append (Kd.int .i64) (w0:=w) w.heap.size rfl (.tmp 32) (.tmp 35) 43 3 (.int .i64 0) 8 rfl Try.underlying43 info3 rfl (by decide) (by omega) u4 x4_1 (x5_1.size:Int) [.int .i64 (x5_1.size:Int)] (fun _=>True) (fun _=>False) rfl rfl ?aP (fun _ hk=>hk.elim) ?aF ?aO ?aB ?aS ?aL ?_;(case aP=>exact rfl);(case aB=>exact (by repeat (first|(with_reducible first|exact HB.out|apply qA|apply qN|apply q1_|refine qS ?_ GE531.out)|exact HB.out)));(case aF=>exact (fun _ _=>trivial));(case aO=>exact (by (with_reducible repeat first|apply Kd.R_alloc|apply Kd.R_drewN|apply Kd.R_drew);exact HO_4.out));(case aS=>exact (qZ (by repeat (first|(with_reducible first|exact HB.out|apply qA|apply qN|apply q1_|refine qS ?_ GE531.out)|exact HB.out))));(case aL=>have:=LMc29.out;omega);intro v542 w31 ho hb hg hat;rw [← Ny541.out] at ho;have n0_:=Zz.mk (Kd.R_over' (by (with_reducible repeat first|apply Kd.R_alloc|apply Kd.R_drewN|apply Kd.R_drew);exact HO_6.out) (Kd.R_typed (by (with_reducible repeat first|apply Kd.R_alloc|apply Kd.R_drewN|apply Kd.R_drew);exact HO_4.out)) (by decide) hg);have n1_:=Zz.mk (blk_grown (g:=gb531) (o:=.cells #[.slice none 0 0] 24 (0,0)) (by (with_reducible repeat first|apply bN|apply bD|apply bA);exact BK531.out) hg (Kd.R_ne HO_4.out BK531.out (by decide)));have n2_:=Zz.mk (hb);have n3_:=Zz.mk (ho);clear HO_6;clear BK531;clear HB;clear HO_4;have HO_6:=n0_;have BK531:=n1_;have HB:=n2_;have HO543:=n3_;clear n0_ n1_ n2_ n3_;clear ho hb hg hat;have hcz32_0:w31.cell? ⟨gb531,0,none⟩=some (.slice none 0 0):=(bC BK531.out 0).trans rfl;have hfz32_0:=bF BK531.out 0)))
                    refine bodyPost_ret (results_ct rfl _ _ gb531 24 #[.slice none 0 0] (0,0) _ rfl (by (with_reducible repeat first|apply bN|apply bD|apply bA);refine blk_put (cs:=#[.slice none 0 0]) ?_ 0 _ rfl;(with_reducible repeat first|apply bN|apply bD|apply bA);exact BK531.out) Try.underlying24 rfl (by kernel_rfl)) rfl ?_
                    exact ⟨_,by first|rfl|(simp [errW_none,errW_some] <;> rfl)|(simp [*,errW_none,errW_some] <;> rfl),by first|exact Kd.R_nil _ _ _ _ _|exact Kd.N_nil _ _ _ _ _|exact Kd.V_nil _ _ _ _ _|exact Kd.Q_nil _ _ _ _ _|exact Kd.S_nil _ _ _ _ _,by repeat (first|(with_reducible first|exact HB.out|apply qA|apply qN|apply q1_|refine qS ?_ GE531.out)|exact HB.out)⟩
                  · rw [if_neg c30] at H
                    have c30b0:decide (12<(x5_1.size:Int))=false:=decide_eq_false c30
                    have c30b1:decide (12<x5_1.size)=false:=decide_eq_false (by omega)
                    clear c30
                    by_cases c33:(x6_1.length:Int) > 40
                    · rw [if_pos c33] at H
                      have c33b0:decide (40<(x6_1.length:Int))=true:=decide_eq_true c33
                      have c33b1:decide (40<x6_1.length)=true:=decide_eq_true (by omega)
                      clear c33
                      simp only [Option.some.injEq,Prod.mk.injEq] at H
                      obtain ⟨rfl,rfl⟩:=H
                      have p10:0≤(x15_1:Int):=of_decide_eq_true (by first|(with_reducible assumption)|assumption)
                      have q10:x15_1<(a0.size:Int):=of_decide_eq_true (by first|(with_reducible assumption)|assumption)
                      have hx10:=bt_at a0 x15_1
                      replace p10:=eq_true p10
                      replace q10:=eq_true q10
                      go_wp2_with (first|((with_reducible refine gate_builtin (b:=.append) (xs:=#[.tmp 32,.tmp 35]) rfl ?_);(try (refine gate_guard (by rfl) ?_;dsimp only));at_builtin;refine Kd.R_append (Kd.int .i64) (w0:=w) w.heap.size rfl (.tmp 32) (.tmp 35) 43 3 (.int .i64 0) 8 rfl Try.underlying43 info3 rfl (by decide) (by omega) u4 x4_1 (x5_1.size:Int) [.int .i64 (x5_1.size:Int)] (fun _=>True) (fun _=>False) rfl rfl ?aP (fun _ hk=>hk.elim) ?aF ?aO ?aB ?aS ?aL ?_;(case aP=>exact rfl);(case aB=>exact (by repeat (first|(with_reducible first|exact HB.out|apply qA|apply qN|apply q1_|refine qS ?_ GE531.out)|exact HB.out)));(case aF=>exact (fun _ _=>trivial));(case aO=>exact (by (with_reducible repeat first|apply Kd.R_alloc|apply Kd.R_drewN|apply Kd.R_drew);exact HO_4.out));(case aS=>exact (qZ (by repeat (first|(with_reducible first|exact HB.out|apply qA|apply qN|apply q1_|refine qS ?_ GE531.out)|exact HB.out))));(case aL=>have:=LMc29.out;omega);intro v542 w34 ho hb hg hat;rw [← Ny541.out] at ho;have n0_:=Zz.mk (Kd.R_over' (by (with_reducible repeat first|apply Kd.R_alloc|apply Kd.R_drewN|apply Kd.R_drew);exact HO_6.out) (Kd.R_typed (by (with_reducible repeat first|apply Kd.R_alloc|apply Kd.R_drewN|apply Kd.R_drew);exact HO_4.out)) (by decide) hg);have n1_:=Zz.mk (blk_grown (g:=gb531) (o:=.cells #[.slice none 0 0] 24 (0,0)) (by (with_reducible repeat first|apply bN|apply bD|apply bA);exact BK531.out) hg (Kd.R_ne HO_4.out BK531.out (by decide)));have n2_:=Zz.mk (hb);have n3_:=Zz.mk (ho);clear HO_6;clear BK531;clear HB;clear HO_4;have HO_6:=n0_;have BK531:=n1_;have HB:=n2_;have HO543:=n3_;clear n0_ n1_ n2_ n3_;clear ho hb hg hat;obtain ⟨Ao35,co35,eo35⟩:=Kd.R_slice HO_6.out;subst eo35;have hcz36_0:w34.cell? ⟨gb531,0,none⟩=some (.slice none 0 0):=(bC BK531.out 0).trans rfl;have hfz36_0:=bF BK531.out 0))
                      repeat (go_quiet (first|((with_reducible refine gate_builtin (b:=.append) (xs:=#[.tmp 32,.tmp 35]) rfl ?_);(try (refine gate_guard (by rfl) ?_;dsimp only));at_builtin;refine Kd.R_append (Kd.int .i64) (w0:=w) w.heap.size rfl (.tmp 32) (.tmp 35) 43 3 (.int .i64 0) 8 rfl Try.underlying43 info3 rfl (by decide) (by omega) u4 x4_1 (x5_1.size:Int) [.int .i64 (x5_1.size:Int)] (fun _=>True) (fun _=>False) rfl rfl ?aP (fun _ hk=>hk.elim) ?aF ?aO ?aB ?aS ?aL ?_;(case aP=>exact rfl);(case aB=>exact (by repeat (first|(with_reducible first|exact HB.out|apply qA|apply qN|apply q1_|refine qS ?_ GE531.out)|exact HB.out)));(case aF=>exact (fun _ _=>trivial));(case aO=>exact (by (with_reducible repeat first|apply Kd.R_alloc|apply Kd.R_drewN|apply Kd.R_drew);exact HO_4.out));(case aS=>exact (qZ (by repeat (first|(with_reducible first|exact HB.out|apply qA|apply qN|apply q1_|refine qS ?_ GE531.out)|exact HB.out))));(case aL=>have:=LMc29.out;omega);intro v542 w34 ho hb hg hat;rw [← Ny541.out] at ho;have n0_:=Zz.mk (Kd.R_over' (by (with_reducible repeat first|apply Kd.R_alloc|apply Kd.R_drewN|apply Kd.R_drew);exact HO_6.out) (Kd.R_typed (by (with_reducible repeat first|apply Kd.R_alloc|apply Kd.R_drewN|apply Kd.R_drew);exact HO_4.out)) (by decide) hg);have n1_:=Zz.mk (blk_grown (g:=gb531) (o:=.cells #[.slice none 0 0] 24 (0,0)) (by (with_reducible repeat first|apply bN|apply bD|apply bA);exact BK531.out) hg (Kd.R_ne HO_4.out BK531.out (by decide)));have n2_:=Zz.mk (hb);have n3_:=Zz.mk (ho);clear HO_6;clear BK531;clear HB;clear HO_4;have HO_6:=n0_;have BK531:=n1_;have HB:=n2_;have HO543:=n3_;clear n0_ n1_ n2_ n3_;clear ho hb hg hat;obtain ⟨Ao35,co35,eo35⟩:=Kd.R_slice HO_6.out;subst eo35;have hcz36_0:w34.cell? ⟨gb531,0,none⟩=some (.slice none 0 0):=(bC BK531.out 0).trans rfl;have hfz36_0:=bF BK531.out 0));try go_wp2_with (first|((with_reducible refine gate_builtin (b:=.append) (xs:=#[.tmp 32,.tmp 35]) rfl ?_);(try (refine gate_guard (by rfl) ?_;dsimp only));at_builtin;refine Kd.R_append (Kd.int .i64) (w0:=w) w.heap.size rfl (.tmp 32) (.tmp 35) 43 3 (.int .i64 0) 8 rfl Try.underlying43 info3 rfl (by decide) (by omega) u4 x4_1 (x5_1.size:Int) [.int .i64 (x5_1.size:Int)] (fun _=>True) (fun _=>False) rfl rfl ?aP (fun _ hk=>hk.elim) ?aF ?aO ?aB ?aS ?aL ?_;(case aP=>exact rfl);(case aB=>exact (by repeat (first|(with_reducible first|exact HB.out|apply qA|apply qN|apply q1_|refine qS ?_ GE531.out)|exact HB.out)));(case aF=>exact (fun _ _=>trivial));(case aO=>exact (by (with_reducible repeat first|apply Kd.R_alloc|apply Kd.R_drewN|apply Kd.R_drew);exact HO_4.out));(case aS=>exact (qZ (by repeat (first|(with_reducible first|exact HB.out|apply qA|apply qN|apply q1_|refine qS ?_ GE531.out)|exact HB.out))));(case aL=>have:=LMc29.out;omega);intro v542 w34 ho hb hg hat;rw [← Ny541.out] at ho;have n0_:=Zz.mk (Kd.R_over' (by (with_reducible repeat first|apply Kd.R_alloc|apply Kd.R_drewN|apply Kd.R_drew);exact HO_6.out) (Kd.R_typed (by (with_reducible repeat first|apply Kd.R_alloc|apply Kd.R_drewN|apply Kd.R_drew);exact HO_4.out)) (by decide) hg);have n1_:=Zz.mk (blk_grown (g:=gb531) (o:=.cells #[.slice none 0 0] 24 (0,0)) (by (with_reducible repeat first|apply bN|apply bD|apply bA);exact BK531.out) hg (Kd.R_ne HO_4.out BK531.out (by decide)));have n2_:=Zz.mk (hb);have n3_:=Zz.mk (ho);clear HO_6;clear BK531;clear HB;clear HO_4;have HO_6:=n0_;have BK531:=n1_;have HB:=n2_;have HO543:=n3_;clear n0_ n1_ n2_ n3_;clear ho hb hg hat;obtain ⟨Ao35,co35,eo35⟩:=Kd.R_slice HO_6.out;subst eo35;have hcz36_0:w34.cell? ⟨gb531,0,none⟩=some (.slice none 0 0):=(bC BK531.out 0).trans rfl;have hfz36_0:=bF BK531.out 0)))
                      refine bodyPost_ret (results_ct rfl _ _ gb531 24 #[.slice none 0 0] (0,0) _ rfl (by (with_reducible repeat first|apply bN|apply bD|apply bA);refine blk_put (cs:=#[.slice none 0 0]) ?_ 0 _ rfl;(with_reducible repeat first|apply bN|apply bD|apply bA);exact BK531.out) Try.underlying24 rfl (by kernel_rfl)) rfl ?_
                      exact ⟨_,by first|rfl|(simp [errW_none,errW_some] <;> rfl)|(simp [*,errW_none,errW_some] <;> rfl),by first|exact Kd.R_nil _ _ _ _ _|exact Kd.N_nil _ _ _ _ _|exact Kd.V_nil _ _ _ _ _|exact Kd.Q_nil _ _ _ _ _|exact Kd.S_nil _ _ _ _ _,by repeat (first|(with_reducible first|exact HB.out|apply qA|apply qN|apply q1_|refine qS ?_ GE531.out)|exact HB.out)⟩
                    · rw [if_neg c33] at H
                      have c33b0:decide (40<(x6_1.length:Int))=false:=decide_eq_false c33
                      have c33b1:decide (40<x6_1.length)=false:=decide_eq_false (by omega)
                      clear c33
                      by_cases c37:(y541.length:Int) > 12
                      · rw [if_pos c37] at H
                        have c37b0:decide (12<(y541.length:Int))=true:=decide_eq_true c37
                        have c37b1:decide (12<y541.length)=true:=decide_eq_true (by omega)
                        clear c37
                        simp only [Option.some.injEq,Prod.mk.injEq] at H
                        obtain ⟨rfl,rfl⟩:=H
                        have p10:0≤(x15_1:Int):=of_decide_eq_true (by first|(with_reducible assumption)|assumption)
                        have q10:x15_1<(a0.size:Int):=of_decide_eq_true (by first|(with_reducible assumption)|assumption)
                        have hx10:=bt_at a0 x15_1
                        replace p10:=eq_true p10
                        replace q10:=eq_true q10
                        go_wp2_with (first|((with_reducible refine gate_builtin (b:=.append) (xs:=#[.tmp 32,.tmp 35]) rfl ?_);(try (refine gate_guard (by rfl) ?_;dsimp only));at_builtin;refine Kd.R_append (Kd.int .i64) (w0:=w) w.heap.size rfl (.tmp 32) (.tmp 35) 43 3 (.int .i64 0) 8 rfl Try.underlying43 info3 rfl (by decide) (by omega) u4 x4_1 (x5_1.size:Int) [.int .i64 (x5_1.size:Int)] (fun _=>True) (fun _=>False) rfl rfl ?aP (fun _ hk=>hk.elim) ?aF ?aO ?aB ?aS ?aL ?_;(case aP=>exact rfl);(case aB=>exact (by repeat (first|(with_reducible first|exact HB.out|apply qA|apply qN|apply q1_|refine qS ?_ GE531.out)|exact HB.out)));(case aF=>exact (fun _ _=>trivial));(case aO=>exact (by (with_reducible repeat first|apply Kd.R_alloc|apply Kd.R_drewN|apply Kd.R_drew);exact HO_4.out));(case aS=>exact (qZ (by repeat (first|(with_reducible first|exact HB.out|apply qA|apply qN|apply q1_|refine qS ?_ GE531.out)|exact HB.out))));(case aL=>have:=LMc29.out;omega);intro v542 w38 ho hb hg hat;rw [← Ny541.out] at ho;have n0_:=Zz.mk (Kd.R_over' (by (with_reducible repeat first|apply Kd.R_alloc|apply Kd.R_drewN|apply Kd.R_drew);exact HO_6.out) (Kd.R_typed (by (with_reducible repeat first|apply Kd.R_alloc|apply Kd.R_drewN|apply Kd.R_drew);exact HO_4.out)) (by decide) hg);have n1_:=Zz.mk (blk_grown (g:=gb531) (o:=.cells #[.slice none 0 0] 24 (0,0)) (by (with_reducible repeat first|apply bN|apply bD|apply bA);exact BK531.out) hg (Kd.R_ne HO_4.out BK531.out (by decide)));have n2_:=Zz.mk (hb);have n3_:=Zz.mk (ho);clear HO_6;clear BK531;clear HB;clear HO_4;have HO_6:=n0_;have BK531:=n1_;have HB:=n2_;have HO543:=n3_;clear n0_ n1_ n2_ n3_;clear ho hb hg hat;obtain ⟨Ao39,co39,eo39⟩:=Kd.R_slice HO_6.out;subst eo39;obtain ⟨Ao40,co40,eo40⟩:=Kd.R_slice HO543.out;subst eo40;have hcz41_0:w38.cell? ⟨gb531,0,none⟩=some (.slice none 0 0):=(bC BK531.out 0).trans rfl;have hfz41_0:=bF BK531.out 0))
                        repeat (go_quiet (first|((with_reducible refine gate_builtin (b:=.append) (xs:=#[.tmp 32,.tmp 35]) rfl ?_);(try (refine gate_guard (by rfl) ?_;dsimp only));at_builtin;refine Kd.R_append (Kd.int .i64) (w0:=w) w.heap.size rfl (.tmp 32) (.tmp 35) 43 3 (.int .i64 0) 8 rfl Try.underlying43 info3 rfl (by decide) (by omega) u4 x4_1 (x5_1.size:Int) [.int .i64 (x5_1.size:Int)] (fun _=>True) (fun _=>False) rfl rfl ?aP (fun _ hk=>hk.elim) ?aF ?aO ?aB ?aS ?aL ?_;(case aP=>exact rfl);(case aB=>exact (by repeat (first|(with_reducible first|exact HB.out|apply qA|apply qN|apply q1_|refine qS ?_ GE531.out)|exact HB.out)));(case aF=>exact (fun _ _=>trivial));(case aO=>exact (by (with_reducible repeat first|apply Kd.R_alloc|apply Kd.R_drewN|apply Kd.R_drew);exact HO_4.out));(case aS=>exact (qZ (by repeat (first|(with_reducible first|exact HB.out|apply qA|apply qN|apply q1_|refine qS ?_ GE531.out)|exact HB.out))));(case aL=>have:=LMc29.out;omega);intro v542 w38 ho hb hg hat;rw [← Ny541.out] at ho;have n0_:=Zz.mk (Kd.R_over' (by (with_reducible repeat first|apply Kd.R_alloc|apply Kd.R_drewN|apply Kd.R_drew);exact HO_6.out) (Kd.R_typed (by (with_reducible repeat first|apply Kd.R_alloc|apply Kd.R_drewN|apply Kd.R_drew);exact HO_4.out)) (by decide) hg);have n1_:=Zz.mk (blk_grown (g:=gb531) (o:=.cells #[.slice none 0 0] 24 (0,0)) (by (with_reducible repeat first|apply bN|apply bD|apply bA);exact BK531.out) hg (Kd.R_ne HO_4.out BK531.out (by decide)));have n2_:=Zz.mk (hb);have n3_:=Zz.mk (ho);clear HO_6;clear BK531;clear HB;clear HO_4;have HO_6:=n0_;have BK531:=n1_;have HB:=n2_;have HO543:=n3_;clear n0_ n1_ n2_ n3_;clear ho hb hg hat;obtain ⟨Ao39,co39,eo39⟩:=Kd.R_slice HO_6.out;subst eo39;obtain ⟨Ao40,co40,eo40⟩:=Kd.R_slice HO543.out;subst eo40;have hcz41_0:w38.cell? ⟨gb531,0,none⟩=some (.slice none 0 0):=(bC BK531.out 0).trans rfl;have hfz41_0:=bF BK531.out 0));try go_wp2_with (first|((with_reducible refine gate_builtin (b:=.append) (xs:=#[.tmp 32,.tmp 35]) rfl ?_);(try (refine gate_guard (by rfl) ?_;dsimp only));at_builtin;refine Kd.R_append (Kd.int .i64) (w0:=w) w.heap.size rfl (.tmp 32) (.tmp 35) 43 3 (.int .i64 0) 8 rfl Try.underlying43 info3 rfl (by decide) (by omega) u4 x4_1 (x5_1.size:Int) [.int .i64 (x5_1.size:Int)] (fun _=>True) (fun _=>False) rfl rfl ?aP (fun _ hk=>hk.elim) ?aF ?aO ?aB ?aS ?aL ?_;(case aP=>exact rfl);(case aB=>exact (by repeat (first|(with_reducible first|exact HB.out|apply qA|apply qN|apply q1_|refine qS ?_ GE531.out)|exact HB.out)));(case aF=>exact (fun _ _=>trivial));(case aO=>exact (by (with_reducible repeat first|apply Kd.R_alloc|apply Kd.R_drewN|apply Kd.R_drew);exact HO_4.out));(case aS=>exact (qZ (by repeat (first|(with_reducible first|exact HB.out|apply qA|apply qN|apply q1_|refine qS ?_ GE531.out)|exact HB.out))));(case aL=>have:=LMc29.out;omega);intro v542 w38 ho hb hg hat;rw [← Ny541.out] at ho;have n0_:=Zz.mk (Kd.R_over' (by (with_reducible repeat first|apply Kd.R_alloc|apply Kd.R_drewN|apply Kd.R_drew);exact HO_6.out) (Kd.R_typed (by (with_reducible repeat first|apply Kd.R_alloc|apply Kd.R_drewN|apply Kd.R_drew);exact HO_4.out)) (by decide) hg);have n1_:=Zz.mk (blk_grown (g:=gb531) (o:=.cells #[.slice none 0 0] 24 (0,0)) (by (with_reducible repeat first|apply bN|apply bD|apply bA);exact BK531.out) hg (Kd.R_ne HO_4.out BK531.out (by decide)));have n2_:=Zz.mk (hb);have n3_:=Zz.mk (ho);clear HO_6;clear BK531;clear HB;clear HO_4;have HO_6:=n0_;have BK531:=n1_;have HB:=n2_;have HO543:=n3_;clear n0_ n1_ n2_ n3_;clear ho hb hg hat;obtain ⟨Ao39,co39,eo39⟩:=Kd.R_slice HO_6.out;subst eo39;obtain ⟨Ao40,co40,eo40⟩:=Kd.R_slice HO543.out;subst eo40;have hcz41_0:w38.cell? ⟨gb531,0,none⟩=some (.slice none 0 0):=(bC BK531.out 0).trans rfl;have hfz41_0:=bF BK531.out 0)))
                        refine bodyPost_ret (results_ct rfl _ _ gb531 24 #[.slice none 0 0] (0,0) _ rfl (by (with_reducible repeat first|apply bN|apply bD|apply bA);refine blk_put (cs:=#[.slice none 0 0]) ?_ 0 _ rfl;(with_reducible repeat first|apply bN|apply bD|apply bA);exact BK531.out) Try.underlying24 rfl (by kernel_rfl)) rfl ?_
                        exact ⟨_,by first|rfl|(simp [errW_none,errW_some] <;> rfl)|(simp [*,errW_none,errW_some] <;> rfl),by first|exact Kd.R_nil _ _ _ _ _|exact Kd.N_nil _ _ _ _ _|exact Kd.V_nil _ _ _ _ _|exact Kd.Q_nil _ _ _ _ _|exact Kd.S_nil _ _ _ _ _,by repeat (first|(with_reducible first|exact HB.out|apply qA|apply qN|apply q1_|refine qS ?_ GE531.out)|exact HB.out)⟩
                      · rw [if_neg c37] at H
                        have c37b0:decide (12<(y541.length:Int))=false:=decide_eq_false c37
                        have c37b1:decide (12<y541.length)=false:=decide_eq_false (by omega)
                        clear c37
                        have H':=Zz.mk H
                        clear H
                        have p10:0≤(x15_1:Int):=of_decide_eq_true (by first|(with_reducible assumption)|assumption)
                        have q10:x15_1<(a0.size:Int):=of_decide_eq_true (by first|(with_reducible assumption)|assumption)
                        have hx10:=bt_at a0 x15_1
                        replace p10:=eq_true p10
                        replace q10:=eq_true q10
                        go_wp2_with (first|((with_reducible refine gate_builtin (b:=.append) (xs:=#[.tmp 32,.tmp 35]) rfl ?_);(try (refine gate_guard (by rfl) ?_;dsimp only));at_builtin;refine Kd.R_append (Kd.int .i64) (w0:=w) w.heap.size rfl (.tmp 32) (.tmp 35) 43 3 (.int .i64 0) 8 rfl Try.underlying43 info3 rfl (by decide) (by omega) u4 x4_1 (x5_1.size:Int) [.int .i64 (x5_1.size:Int)] (fun _=>True) (fun _=>False) rfl rfl ?aP (fun _ hk=>hk.elim) ?aF ?aO ?aB ?aS ?aL ?_;(case aP=>exact rfl);(case aB=>exact (by repeat (first|(with_reducible first|exact HB.out|apply qA|apply qN|apply q1_|refine qS ?_ GE531.out)|exact HB.out)));(case aF=>exact (fun _ _=>trivial));(case aO=>exact (by (with_reducible repeat first|apply Kd.R_alloc|apply Kd.R_drewN|apply Kd.R_drew);exact HO_4.out));(case aS=>exact (qZ (by repeat (first|(with_reducible first|exact HB.out|apply qA|apply qN|apply q1_|refine qS ?_ GE531.out)|exact HB.out))));(case aL=>have:=LMc29.out;omega);intro v542 w42 ho hb hg hat;rw [← Ny541.out] at ho;have n0_:=Zz.mk (Kd.R_over' (by (with_reducible repeat first|apply Kd.R_alloc|apply Kd.R_drewN|apply Kd.R_drew);exact HO_6.out) (Kd.R_typed (by (with_reducible repeat first|apply Kd.R_alloc|apply Kd.R_drewN|apply Kd.R_drew);exact HO_4.out)) (by decide) hg);have n1_:=Zz.mk (blk_grown (g:=gb531) (o:=.cells #[.slice none 0 0] 24 (0,0)) (by (with_reducible repeat first|apply bN|apply bD|apply bA);exact BK531.out) hg (Kd.R_ne HO_4.out BK531.out (by decide)));have n2_:=Zz.mk (hb);have n3_:=Zz.mk (ho);clear HO_6;clear BK531;clear HB;clear HO_4;have HO_6:=n0_;have BK531:=n1_;have HB:=n2_;have HO543:=n3_;clear n0_ n1_ n2_ n3_;clear ho hb hg hat;obtain ⟨Ao43,co43,eo43⟩:=Kd.R_slice HO_6.out;subst eo43;obtain ⟨Ao44,co44,eo44⟩:=Kd.R_slice HO543.out;subst eo44))
                        repeat (go_quiet (first|((with_reducible refine gate_builtin (b:=.append) (xs:=#[.tmp 32,.tmp 35]) rfl ?_);(try (refine gate_guard (by rfl) ?_;dsimp only));at_builtin;refine Kd.R_append (Kd.int .i64) (w0:=w) w.heap.size rfl (.tmp 32) (.tmp 35) 43 3 (.int .i64 0) 8 rfl Try.underlying43 info3 rfl (by decide) (by omega) u4 x4_1 (x5_1.size:Int) [.int .i64 (x5_1.size:Int)] (fun _=>True) (fun _=>False) rfl rfl ?aP (fun _ hk=>hk.elim) ?aF ?aO ?aB ?aS ?aL ?_;(case aP=>exact rfl);(case aB=>exact (by repeat (first|(with_reducible first|exact HB.out|apply qA|apply qN|apply q1_|refine qS ?_ GE531.out)|exact HB.out)));(case aF=>exact (fun _ _=>trivial));(case aO=>exact (by (with_reducible repeat first|apply Kd.R_alloc|apply Kd.R_drewN|apply Kd.R_drew);exact HO_4.out));(case aS=>exact (qZ (by repeat (first|(with_reducible first|exact HB.out|apply qA|apply qN|apply q1_|refine qS ?_ GE531.out)|exact HB.out))));(case aL=>have:=LMc29.out;omega);intro v542 w42 ho hb hg hat;rw [← Ny541.out] at ho;have n0_:=Zz.mk (Kd.R_over' (by (with_reducible repeat first|apply Kd.R_alloc|apply Kd.R_drewN|apply Kd.R_drew);exact HO_6.out) (Kd.R_typed (by (with_reducible repeat first|apply Kd.R_alloc|apply Kd.R_drewN|apply Kd.R_drew);exact HO_4.out)) (by decide) hg);have n1_:=Zz.mk (blk_grown (g:=gb531) (o:=.cells #[.slice none 0 0] 24 (0,0)) (by (with_reducible repeat first|apply bN|apply bD|apply bA);exact BK531.out) hg (Kd.R_ne HO_4.out BK531.out (by decide)));have n2_:=Zz.mk (hb);have n3_:=Zz.mk (ho);clear HO_6;clear BK531;clear HB;clear HO_4;have HO_6:=n0_;have BK531:=n1_;have HB:=n2_;have HO543:=n3_;clear n0_ n1_ n2_ n3_;clear ho hb hg hat;obtain ⟨Ao43,co43,eo43⟩:=Kd.R_slice HO_6.out;subst eo43;obtain ⟨Ao44,co44,eo44⟩:=Kd.R_slice HO543.out;subst eo44));try go_wp2_with (first|((with_reducible refine gate_builtin (b:=.append) (xs:=#[.tmp 32,.tmp 35]) rfl ?_);(try (refine gate_guard (by rfl) ?_;dsimp only));at_builtin;refine Kd.R_append (Kd.int .i64) (w0:=w) w.heap.size rfl (.tmp 32) (.tmp 35) 43 3 (.int .i64 0) 8 rfl Try.underlying43 info3 rfl (by decide) (by omega) u4 x4_1 (x5_1.size:Int) [.int .i64 (x5_1.size:Int)] (fun _=>True) (fun _=>False) rfl rfl ?aP (fun _ hk=>hk.elim) ?aF ?aO ?aB ?aS ?aL ?_;(case aP=>exact rfl);(case aB=>exact (by repeat (first|(with_reducible first|exact HB.out|apply qA|apply qN|apply q1_|refine qS ?_ GE531.out)|exact HB.out)));(case aF=>exact (fun _ _=>trivial));(case aO=>exact (by (with_reducible repeat first|apply Kd.R_alloc|apply Kd.R_drewN|apply Kd.R_drew);exact HO_4.out));(case aS=>exact (qZ (by repeat (first|(with_reducible first|exact HB.out|apply qA|apply qN|apply q1_|refine qS ?_ GE531.out)|exact HB.out))));(case aL=>have:=LMc29.out;omega);intro v542 w42 ho hb hg hat;rw [← Ny541.out] at ho;have n0_:=Zz.mk (Kd.R_over' (by (with_reducible repeat first|apply Kd.R_alloc|apply Kd.R_drewN|apply Kd.R_drew);exact HO_6.out) (Kd.R_typed (by (with_reducible repeat first|apply Kd.R_alloc|apply Kd.R_drewN|apply Kd.R_drew);exact HO_4.out)) (by decide) hg);have n1_:=Zz.mk (blk_grown (g:=gb531) (o:=.cells #[.slice none 0 0] 24 (0,0)) (by (with_reducible repeat first|apply bN|apply bD|apply bA);exact BK531.out) hg (Kd.R_ne HO_4.out BK531.out (by decide)));have n2_:=Zz.mk (hb);have n3_:=Zz.mk (ho);clear HO_6;clear BK531;clear HB;clear HO_4;have HO_6:=n0_;have BK531:=n1_;have HB:=n2_;have HO543:=n3_;clear n0_ n1_ n2_ n3_;clear ho hb hg hat;obtain ⟨Ao43,co43,eo43⟩:=Kd.R_slice HO_6.out;subst eo43;obtain ⟨Ao44,co44,eo44⟩:=Kd.R_slice HO543.out;subst eo44)))
                        go_roundg k1
                        case measure=>have:=HK1.out;omega
                        case rel=>exact ⟨(y541),(x5_1),(x6_1),(wrap64 (x15_1+1)),(by first|rfl|(simp;done)|(simp [*];done)),(by first|rfl|(simp;done)|(simp [*];done)),H',⟨by have:=HK1.out;omega⟩,⟨by (with_reducible repeat first|apply Kd.R_alloc|apply Kd.R_drewN|apply Kd.R_drew);exact HO543.out⟩,⟨by (with_reducible repeat first|apply Kd.R_alloc|apply Kd.R_drewN|apply Kd.R_drew);exact HO_6.out⟩,⟨by (with_reducible repeat first|apply bN|apply bD|apply bA);exact BK531.out⟩,⟨by repeat (first|(with_reducible first|exact HB.out|apply qA|apply qN|apply q1_|refine qS ?_ GE531.out)|exact HB.out)⟩⟩
                · rw [if_neg c29] at H
                  exact absurd H (by simp)
              · rw [if_neg c28] at H
                have c28b0:((bt a0 x15_1) == 40)=false:=beq_eq_false_iff_ne.mpr c28
                have c28b1:((bt a0 x15_1) != 40)=true:=bne_iff_ne.mpr c28
                have HC45:=Zz.mk H
                clear H
                have p10:0≤(x15_1:Int):=of_decide_eq_true (by first|(with_reducible assumption)|assumption)
                have q10:x15_1<(a0.size:Int):=of_decide_eq_true (by first|(with_reducible assumption)|assumption)
                have hx10:=bt_at a0 x15_1
                replace p10:=eq_true p10
                replace q10:=eq_true q10
                go_upto_region 11 with (fail)
                repeat (go_quiet (fail);go_upto_region 11 with (fail))
                go_cut [37] (fun v37 wc=>∃ (kq:Nat) (x37_44:Bool),v37=.bool x37_44∧Zz (impl_ParseTrie.j1 kq a0 x4_1 x5_1 x6_1 x15_1 (bt a0 x15_1) (a0.size:Int) x15_1 x37_44=some (r1,r2))∧Zz (kq≤k1)∧Zz (Kd.R (Kd.int .i64) 3 wc w.heap.size (fun _=>True) u4 x4_1)∧Zz (Kd.R Kd.string 9 wc w.heap.size (fun _=>True) u6 x6_1)∧Zz (wc.heap[gb531]?=some (.cells #[(.slice none 0 0)] 24 (0,0)))∧Zz (Below w.heap.size w wc))
                case first =>
                  have H:=HC45.out
                  clear HC45
                  by_cases c46:(bt a0 x15_1)=41
                  · rw [if_pos c46] at H
                    have c46b0:((bt a0 x15_1) == 41)=true:=beq_iff_eq.mpr c46
                    have c46b1:((bt a0 x15_1) != 41)=false:=bne_eq_false_iff_eq.mpr c46
                    clear c46
                    (first|rw [c46b0]|(simp only [i64_w,i32_w];rw [c46b0])|skip)
                    have H':=Zz.mk H
                    clear H
                    obtain ⟨Ao47,co47,eo47⟩:=Kd.R_slice HO_4.out
                    subst eo47
                    go_wp2
                    repeat (go_quiet (fail);try go_wp2)
                    go_meet
                    case rel=>exact ⟨_,(decide ((x4_1.length:Int) > 0)),(by first|rfl|(simp;done)|(simp [*];done)),H',⟨by have:=HK1.out;first|omega|exact Nat.le_refl _⟩,⟨by (with_reducible repeat first|apply Kd.R_alloc|apply Kd.R_drewN|apply Kd.R_drew);exact HO_4.out⟩,⟨by (with_reducible repeat first|apply Kd.R_alloc|apply Kd.R_drewN|apply Kd.R_drew);exact HO_6.out⟩,⟨by (with_reducible repeat first|apply bN|apply bD|apply bA);exact BK531.out⟩,⟨by repeat (first|(with_reducible first|exact HB.out|apply qA|apply qN|apply q1_|refine qS ?_ GE531.out)|exact HB.out)⟩⟩
                  · rw [if_neg c46] at H
                    have c46b0:((bt a0 x15_1) == 41)=false:=beq_eq_false_iff_ne.mpr c46
                    have c46b1:((bt a0 x15_1) != 41)=true:=bne_iff_ne.mpr c46
                    (first|rw [c46b0]|(simp only [i64_w,i32_w];rw [c46b0])|skip)
                    have H':=Zz.mk H
                    clear H
                    go_wp2
                    repeat (go_quiet (fail);try go_wp2)
                    go_meet
                    case rel=>exact ⟨_,(false),(by first|rfl|(simp;done)|(simp [*];done)),H',⟨by have:=HK1.out;first|omega|exact Nat.le_refl _⟩,⟨by (with_reducible repeat first|apply Kd.R_alloc|apply Kd.R_drewN|apply Kd.R_drew);exact HO_4.out⟩,⟨by (with_reducible repeat first|apply Kd.R_alloc|apply Kd.R_drewN|apply Kd.R_drew);exact HO_6.out⟩,⟨by (with_reducible repeat first|apply bN|apply bD|apply bA);exact BK531.out⟩,⟨by repeat (first|(with_reducible first|exact HB.out|apply qA|apply qN|apply q1_|refine qS ?_ GE531.out)|exact HB.out)⟩⟩
                case rest =>
                  clear HC45
                  try clear c1
                  try clear p1
                  try clear q1
                  try clear hx1
                  try clear c2
                  try clear p2
                  try clear c3
                  try clear c4
                  try clear c6
                  try clear p6
                  try clear c7
                  try clear c7b0
                  try clear c8
                  try clear c8b0
                  try clear c9
                  try clear c9b0
                  try clear p10
                  try clear q10
                  try clear hx10
                  try clear c11
                  try clear c11b0
                  try clear c11b1
                  try clear c12
                  try clear c13
                  try clear c13b0
                  try clear c13b1
                  try clear c16
                  try clear c16b0
                  try clear c16b1
                  try clear c20
                  try clear c20b0
                  try clear c20b1
                  try clear c28
                  try clear c28b0
                  try clear c28b1
                  try clear c29
                  try clear c30
                  try clear c30b0
                  try clear c30b1
                  try clear c33
                  try clear c33b0
                  try clear c33b1
                  try clear c37
                  try clear c37b0
                  try clear c37b1
                  try clear c46
                  try clear c46b0
                  try clear c46b1
                  try clear hcz15_0
                  try clear hcz19_0
                  try clear hcz24_0
                  try clear hcz32_0
                  try clear hcz36_0
                  try clear hcz41_0
                  try clear hfz15_0
                  try clear hfz19_0
                  try clear hfz24_0
                  try clear hfz32_0
                  try clear hfz36_0
                  try clear hfz41_0
                  try clear p10
                  try clear p2
                  try clear q10
                  obtain ⟨kq,x37_44,rfl,HA,HJ44,HO_4,HO_6,BK531,HB⟩:=hcut
                  cases kq with
                  | zero=>exact absurd HA.out (by simp [impl_ParseTrie.j1])
                  | succ kj44 =>
                    have H:=HA.out
                    clear HA
                    simp only [impl_ParseTrie.j1] at H
                    by_cases c48:x37_44=true
                    · subst c48
                      have H1:(if 0≤(wrap64 ((x4_1.length:Int) - 1)) then (if (wrap64 ((x4_1.length:Int) - 1))<(x4_1.length:Int) then (if 0≤(rd x4_1 (wrap64 ((x4_1.length:Int) - 1))) then (if (rd x4_1 (wrap64 ((x4_1.length:Int) - 1)))≤(x5_1.size:Int) then (if (wrap64 ((x4_1.length:Int) - 1))≤(x4_1.length:Int) then ((some (x4_1.take ((wrap64 ((x4_1.length:Int) - 1)):Int).toNat:List Int)).bind fun y545=>(if ((x5_1.extract 0 ((rd x4_1 (wrap64 ((x4_1.length:Int) - 1))):Int).toNat).size:Int) > 12 then (some (([]:List (S62)),false)) else (if (x6_1.length:Int) > 40 then (some (([]:List (S62)),false)) else (if (y545.length:Int) > 12 then (some (([]:List (S62)),false)) else (impl_ParseTrie.l0 kj44 a0 y545 (x5_1.extract 0 ((rd x4_1 (wrap64 ((x4_1.length:Int) - 1))):Int).toNat) x6_1 (a0.size:Int) (wrap64 (x15_1+1))))))) else (none)) else (none)) else (none)) else (none)) else (none))=some (r1,r2):=by rw [if_pos rfl] at H;exact H
                      clear H
                      have H:=H1
                      clear H1
                      obtain ⟨ji49,hji49⟩:∃ j_:Int,(wrap64 ((x4_1.length:Int) - 1))=j_:=⟨_,rfl⟩
                      replace H:(if 0≤(ji49) then (if (ji49)<(x4_1.length:Int) then (if 0≤(rd x4_1 (ji49)) then (if (rd x4_1 (ji49))≤(x5_1.size:Int) then (if (ji49)≤(x4_1.length:Int) then ((some (x4_1.take ((ji49):Int).toNat:List Int)).bind fun y545=>(if ((x5_1.extract 0 ((rd x4_1 (ji49)):Int).toNat).size:Int) > 12 then (some (([]:List (S62)),false)) else (if (x6_1.length:Int) > 40 then (some (([]:List (S62)),false)) else (if (y545.length:Int) > 12 then (some (([]:List (S62)),false)) else (impl_ParseTrie.l0 kj44 a0 y545 (x5_1.extract 0 ((rd x4_1 (ji49)):Int).toNat) x6_1 (a0.size:Int) (wrap64 (x15_1+1))))))) else (none)) else (none)) else (none)) else (none)) else (none))=some (r1,r2):=by first|(rw [hji49] at H;exact H)|(simp only [hji49] at H ⊢;exact H)
                      have hji49w:(IntKind.i64.wrap ((x4_1.length:Int) - 1))=ji49:=(i64_w _).trans hji49
                      by_cases c50:0≤(ji49)
                      · rw [if_pos c50] at H
                        have c50b0:decide (0≤(ji49))=true:=decide_eq_true c50
                        clear c50
                        by_cases c51:(ji49)<(x4_1.length:Int)
                        · rw [if_pos c51] at H
                          have c51b0:decide ((ji49)<(x4_1.length:Int))=true:=decide_eq_true c51
                          clear c51
                          by_cases c52:0≤(rd x4_1 (ji49))
                          · rw [if_pos c52] at H
                            have c52b0:=eq_true c52
                            have c52b1:decide (0≤(rd x4_1 (ji49)))=true:=decide_eq_true c52
                            clear c52
                            by_cases c53:(rd x4_1 (ji49))≤(x5_1.size:Int)
                            · rw [if_pos c53] at H
                              have c53b0:=eq_true c53
                              have c53b1:decide ((rd x4_1 (ji49))≤(x5_1.size:Int))=true:=decide_eq_true c53
                              clear c53
                              by_cases c54:(ji49)≤(x4_1.length:Int)
                              · rw [if_pos c54] at H
                                have c54b0:=eq_true c54
                                have c54b1:decide ((ji49)≤(x4_1.length:Int))=true:=decide_eq_true c54
                                clear c54
                                obtain ⟨y545,hy545⟩:∃ y_:List Int,y_=(x4_1.take ((ji49):Int).toNat):=⟨_,rfl⟩
                                replace H:(if ((x5_1.extract 0 ((rd x4_1 (ji49)):Int).toNat).size:Int) > 12 then (some (([]:List (S62)),false)) else (if (x6_1.length:Int) > 40 then (some (([]:List (S62)),false)) else (if (y545.length:Int) > 12 then (some (([]:List (S62)),false)) else (impl_ParseTrie.l0 kj44 a0 y545 (x5_1.extract 0 ((rd x4_1 (ji49)):Int).toNat) x6_1 (a0.size:Int) (wrap64 (x15_1+1))))))=some (r1,r2):=by first|(rw [hy545];with_reducible exact H)|(have H2_:=(Option.bind_some _ _).symm.trans H;rw [hy545];with_reducible exact H2_)|(have H2_:=(Option.bind_some _ _).symm.trans H;with_reducible exact H2_)|with_reducible exact H|(rw [hy545];exact H)|exact H
                                have Ny545:=Zz.mk hy545
                                clear hy545
                                by_cases c55:((x5_1.extract 0 ((rd x4_1 (ji49)):Int).toNat).size:Int) > 12
                                · rw [if_pos c55] at H
                                  have c55b0:decide (12<((x5_1.extract 0 ((rd x4_1 (ji49)):Int).toNat).size:Int))=true:=decide_eq_true c55
                                  have c55b1:decide (12<(x5_1.extract 0 ((rd x4_1 (ji49)):Int).toNat).size)=true:=decide_eq_true (by omega)
                                  have c55b2:(12<max (rd x4_1 ji49) 0)=True:=eq_true (by have f1_:0≤rd x4_1 ji49:=of_eq_true (by assumption);have f2_:rd x4_1 ji49≤(x5_1.size:Int):=of_eq_true (by assumption);have f3_:(x5_1.extract 0 (rd x4_1 ji49).toNat).size=(rd x4_1 ji49).toNat:=(by rw [ByteArray.size_extract];omega);omega)
                                  clear c55
                                  simp only [Option.some.injEq,Prod.mk.injEq] at H
                                  obtain ⟨rfl,rfl⟩:=H
                                  obtain ⟨Ao56,co56,eo56⟩:=Kd.R_slice HO_4.out
                                  subst eo56
                                  have p544:0≤((ji49):Int):=of_decide_eq_true (by first|(with_reducible assumption)|assumption)
                                  have q544:(ji49)<(x4_1.length:Int):=of_decide_eq_true (by first|(with_reducible assumption)|assumption)
                                  obtain ⟨ad544,e544,hx544_0⟩:=Kd.at_int (Kd.R_reads' HO_4.out).2.2 (ji49) p544 q544
                                  cases e544
                                  replace p544:=eq_true p544
                                  replace q544:=eq_true q544
                                  have q57:((ji49):Int)≤((x4_1.length:Int):Int):=of_decide_eq_true (by first|(with_reducible assumption)|assumption)
                                  obtain ⟨i057,hi057,_,hsz57,_⟩:=info_parts info3
                                  have hcut57:=cut_to (P:=Try.prog) 43 3 .i64 Try.underlying43 hi057 (some ad544) x4_1.length co56 (ji49) (of_decide_eq_true (by first|(with_reducible assumption)|assumption)) q57 (Kd.R_reads' HO_4.out).2.1
                                  have hr57:=Kd.R_take (m:=((ji49):Int).toNat) HO_4.out (by omega)
                                  have hy57:y545.length=((ji49):Int).toNat:=(by rw [Ny545.out,List.length_take];omega)
                                  rw [← Ny545.out] at hr57
                                  rw [← hy57] at hr57 hcut57
                                  clear hy57 hi057 hsz57 HO_4
                                  have HO547:=Zz.mk hr57
                                  clear hr57
                                  replace q57:=eq_true q57
                                  have hcz58_0:wc.cell? ⟨gb531,0,none⟩=some (.slice none 0 0):=(bC BK531.out 0).trans rfl
                                  have hfz58_0:=bF BK531.out 0
                                  go_wp2
                                  repeat (go_quiet (fail);try go_wp2)
                                  refine bodyPost_ret (results_ct rfl _ _ gb531 24 #[.slice none 0 0] (0,0) _ rfl (by (with_reducible repeat first|apply bN|apply bD|apply bA);refine blk_put (cs:=#[.slice none 0 0]) ?_ 0 _ rfl;(with_reducible repeat first|apply bN|apply bD|apply bA);exact BK531.out) Try.underlying24 rfl (by kernel_rfl)) rfl ?_
                                  exact ⟨_,by first|rfl|(simp [errW_none,errW_some] <;> rfl)|(simp only [← hji49];first|rfl|(simp [errW_none,errW_some] <;> rfl))|(simp [*,errW_none,errW_some] <;> rfl),by first|exact Kd.R_nil _ _ _ _ _|exact Kd.N_nil _ _ _ _ _|exact Kd.V_nil _ _ _ _ _|exact Kd.Q_nil _ _ _ _ _|exact Kd.S_nil _ _ _ _ _,by repeat (first|(with_reducible first|exact HB.out|apply qA|apply qN|apply q1_|refine qS ?_ GE531.out)|exact HB.out)⟩
                                · rw [if_neg c55] at H
                                  have c55b0:decide (12<((x5_1.extract 0 ((rd x4_1 (ji49)):Int).toNat).size:Int))=false:=decide_eq_false c55
                                  have c55b1:decide (12<(x5_1.extract 0 ((rd x4_1 (ji49)):Int).toNat).size)=false:=decide_eq_false (by omega)
                                  have c55b2:(12<max (rd x4_1 ji49) 0)=False:=eq_false (by have f1_:0≤rd x4_1 ji49:=of_eq_true (by assumption);have f2_:rd x4_1 ji49≤(x5_1.size:Int):=of_eq_true (by assumption);have f3_:(x5_1.extract 0 (rd x4_1 ji49).toNat).size=(rd x4_1 ji49).toNat:=(by rw [ByteArray.size_extract];omega);omega)
                                  clear c55
                                  by_cases c59:(x6_1.length:Int) > 40
                                  · rw [if_pos c59] at H
                                    have c59b0:decide (40<(x6_1.length:Int))=true:=decide_eq_true c59
                                    have c59b1:decide (40<x6_1.length)=true:=decide_eq_true (by omega)
                                    clear c59
                                    simp only [Option.some.injEq,Prod.mk.injEq] at H
                                    obtain ⟨rfl,rfl⟩:=H
                                    obtain ⟨Ao60,co60,eo60⟩:=Kd.R_slice HO_4.out
                                    subst eo60
                                    have p544:0≤((ji49):Int):=of_decide_eq_true (by first|(with_reducible assumption)|assumption)
                                    have q544:(ji49)<(x4_1.length:Int):=of_decide_eq_true (by first|(with_reducible assumption)|assumption)
                                    obtain ⟨ad544,e544,hx544_0⟩:=Kd.at_int (Kd.R_reads' HO_4.out).2.2 (ji49) p544 q544
                                    cases e544
                                    replace p544:=eq_true p544
                                    replace q544:=eq_true q544
                                    have q61:((ji49):Int)≤((x4_1.length:Int):Int):=of_decide_eq_true (by first|(with_reducible assumption)|assumption)
                                    obtain ⟨i061,hi061,_,hsz61,_⟩:=info_parts info3
                                    have hcut61:=cut_to (P:=Try.prog) 43 3 .i64 Try.underlying43 hi061 (some ad544) x4_1.length co60 (ji49) (of_decide_eq_true (by first|(with_reducible assumption)|assumption)) q61 (Kd.R_reads' HO_4.out).2.1
                                    have hr61:=Kd.R_take (m:=((ji49):Int).toNat) HO_4.out (by omega)
                                    have hy61:y545.length=((ji49):Int).toNat:=(by rw [Ny545.out,List.length_take];omega)
                                    rw [← Ny545.out] at hr61
                                    rw [← hy61] at hr61 hcut61
                                    clear hy61 hi061 hsz61 HO_4
                                    have HO547:=Zz.mk hr61
                                    clear hr61
                                    replace q61:=eq_true q61
                                    obtain ⟨Ao62,co62,eo62⟩:=Kd.R_slice HO_6.out
                                    subst eo62
                                    have hcz63_0:wc.cell? ⟨gb531,0,none⟩=some (.slice none 0 0):=(bC BK531.out 0).trans rfl
                                    have hfz63_0:=bF BK531.out 0
                                    go_wp2
                                    repeat (go_quiet (fail);try go_wp2)
                                    refine bodyPost_ret (results_ct rfl _ _ gb531 24 #[.slice none 0 0] (0,0) _ rfl (by (with_reducible repeat first|apply bN|apply bD|apply bA);refine blk_put (cs:=#[.slice none 0 0]) ?_ 0 _ rfl;(with_reducible repeat first|apply bN|apply bD|apply bA);exact BK531.out) Try.underlying24 rfl (by kernel_rfl)) rfl ?_
                                    exact ⟨_,by first|rfl|(simp [errW_none,errW_some] <;> rfl)|(simp only [← hji49];first|rfl|(simp [errW_none,errW_some] <;> rfl))|(simp [*,errW_none,errW_some] <;> rfl),by first|exact Kd.R_nil _ _ _ _ _|exact Kd.N_nil _ _ _ _ _|exact Kd.V_nil _ _ _ _ _|exact Kd.Q_nil _ _ _ _ _|exact Kd.S_nil _ _ _ _ _,by repeat (first|(with_reducible first|exact HB.out|apply qA|apply qN|apply q1_|refine qS ?_ GE531.out)|exact HB.out)⟩
                                  · rw [if_neg c59] at H
                                    have c59b0:decide (40<(x6_1.length:Int))=false:=decide_eq_false c59
                                    have c59b1:decide (40<x6_1.length)=false:=decide_eq_false (by omega)
                                    clear c59
                                    by_cases c64:(y545.length:Int) > 12
                                    · rw [if_pos c64] at H
                                      have c64b0:decide (12<(y545.length:Int))=true:=decide_eq_true c64
                                      have c64b1:decide (12<y545.length)=true:=decide_eq_true (by omega)
                                      clear c64
                                      simp only [Option.some.injEq,Prod.mk.injEq] at H
                                      obtain ⟨rfl,rfl⟩:=H
                                      obtain ⟨Ao65,co65,eo65⟩:=Kd.R_slice HO_4.out
                                      subst eo65
                                      have p544:0≤((ji49):Int):=of_decide_eq_true (by first|(with_reducible assumption)|assumption)
                                      have q544:(ji49)<(x4_1.length:Int):=of_decide_eq_true (by first|(with_reducible assumption)|assumption)
                                      obtain ⟨ad544,e544,hx544_0⟩:=Kd.at_int (Kd.R_reads' HO_4.out).2.2 (ji49) p544 q544
                                      cases e544
                                      replace p544:=eq_true p544
                                      replace q544:=eq_true q544
                                      have q66:((ji49):Int)≤((x4_1.length:Int):Int):=of_decide_eq_true (by first|(with_reducible assumption)|assumption)
                                      obtain ⟨i066,hi066,_,hsz66,_⟩:=info_parts info3
                                      have hcut66:=cut_to (P:=Try.prog) 43 3 .i64 Try.underlying43 hi066 (some ad544) x4_1.length co65 (ji49) (of_decide_eq_true (by first|(with_reducible assumption)|assumption)) q66 (Kd.R_reads' HO_4.out).2.1
                                      have hr66:=Kd.R_take (m:=((ji49):Int).toNat) HO_4.out (by omega)
                                      have hy66:y545.length=((ji49):Int).toNat:=(by rw [Ny545.out,List.length_take];omega)
                                      rw [← Ny545.out] at hr66
                                      rw [← hy66] at hr66 hcut66
                                      clear hy66 hi066 hsz66 HO_4
                                      have HO547:=Zz.mk hr66
                                      clear hr66
                                      replace q66:=eq_true q66
                                      obtain ⟨Ao67,co67,eo67⟩:=Kd.R_slice HO_6.out
                                      subst eo67
                                      have hcz68_0:wc.cell? ⟨gb531,0,none⟩=some (.slice none 0 0):=(bC BK531.out 0).trans rfl
                                      have hfz68_0:=bF BK531.out 0
                                      go_wp2
                                      repeat (go_quiet (fail);try go_wp2)
                                      refine bodyPost_ret (results_ct rfl _ _ gb531 24 #[.slice none 0 0] (0,0) _ rfl (by (with_reducible repeat first|apply bN|apply bD|apply bA);refine blk_put (cs:=#[.slice none 0 0]) ?_ 0 _ rfl;(with_reducible repeat first|apply bN|apply bD|apply bA);exact BK531.out) Try.underlying24 rfl (by kernel_rfl)) rfl ?_
                                      exact ⟨_,by first|rfl|(simp [errW_none,errW_some] <;> rfl)|(simp only [← hji49];first|rfl|(simp [errW_none,errW_some] <;> rfl))|(simp [*,errW_none,errW_some] <;> rfl),by first|exact Kd.R_nil _ _ _ _ _|exact Kd.N_nil _ _ _ _ _|exact Kd.V_nil _ _ _ _ _|exact Kd.Q_nil _ _ _ _ _|exact Kd.S_nil _ _ _ _ _,by repeat (first|(with_reducible first|exact HB.out|apply qA|apply qN|apply q1_|refine qS ?_ GE531.out)|exact HB.out)⟩
                                    · rw [if_neg c64] at H
                                      have c64b0:decide (12<(y545.length:Int))=false:=decide_eq_false c64
                                      have c64b1:decide (12<y545.length)=false:=decide_eq_false (by omega)
                                      clear c64
                                      have H':=Zz.mk H
                                      clear H
                                      obtain ⟨Ao69,co69,eo69⟩:=Kd.R_slice HO_4.out
                                      subst eo69
                                      have p544:0≤((ji49):Int):=of_decide_eq_true (by first|(with_reducible assumption)|assumption)
                                      have q544:(ji49)<(x4_1.length:Int):=of_decide_eq_true (by first|(with_reducible assumption)|assumption)
                                      obtain ⟨ad544,e544,hx544_0⟩:=Kd.at_int (Kd.R_reads' HO_4.out).2.2 (ji49) p544 q544
                                      cases e544
                                      replace p544:=eq_true p544
                                      replace q544:=eq_true q544
                                      have q70:((ji49):Int)≤((x4_1.length:Int):Int):=of_decide_eq_true (by first|(with_reducible assumption)|assumption)
                                      obtain ⟨i070,hi070,_,hsz70,_⟩:=info_parts info3
                                      have hcut70:=cut_to (P:=Try.prog) 43 3 .i64 Try.underlying43 hi070 (some ad544) x4_1.length co69 (ji49) (of_decide_eq_true (by first|(with_reducible assumption)|assumption)) q70 (Kd.R_reads' HO_4.out).2.1
                                      have hr70:=Kd.R_take (m:=((ji49):Int).toNat) HO_4.out (by omega)
                                      have hy70:y545.length=((ji49):Int).toNat:=(by rw [Ny545.out,List.length_take];omega)
                                      rw [← Ny545.out] at hr70
                                      rw [← hy70] at hr70 hcut70
                                      clear hy70 hi070 hsz70 HO_4
                                      have HO547:=Zz.mk hr70
                                      clear hr70
                                      replace q70:=eq_true q70
                                      obtain ⟨Ao71,co71,eo71⟩:=Kd.R_slice HO_6.out
                                      subst eo71
                                      go_wp2
                                      repeat (go_quiet (fail);try go_wp2)
                                      go_roundg kj44
                                      case measure=>have:=HK1.out;have:=HJ44.out;omega
                                      case rel=>exact ⟨(y545),(x5_1.extract 0 ((rd x4_1 (ji49)):Int).toNat),(x6_1),(wrap64 (x15_1+1)),(by first|rfl|(simp;done)|(simp only [← hji49] <;> (first|rfl|simp))|(simp [*];done)),(by first|rfl|(simp;done)|(simp [*];done)),H',⟨by have:=HK1.out;have:=HJ44.out;omega⟩,⟨by (with_reducible repeat first|apply Kd.R_alloc|apply Kd.R_drewN|apply Kd.R_drew);exact HO547.out⟩,⟨by (with_reducible repeat first|apply Kd.R_alloc|apply Kd.R_drewN|apply Kd.R_drew);exact HO_6.out⟩,⟨by (with_reducible repeat first|apply bN|apply bD|apply bA);exact BK531.out⟩,⟨by repeat (first|(with_reducible first|exact HB.out|apply qA|apply qN|apply q1_|refine qS ?_ GE531.out)|exact HB.out)⟩⟩
                              · rw [if_neg c54] at H
                                exact absurd H (by simp)
                            · rw [if_neg c53] at H
                              exact absurd H (by simp)
                          · rw [if_neg c52] at H
                            exact absurd H (by simp)
                        · rw [if_neg c51] at H
                          exact absurd H (by simp)
                      · rw [if_neg c50] at H
                        exact absurd H (by simp)
                    · replace c48:=Bool.eq_false_iff.mpr c48
                      subst c48
                      have H1:(if (bt a0 x15_1) ≥ 97 then (if (bt a0 x15_1)≤122 then (impl_ParseTrie.j2 kj44 a0 x4_1 x5_1 x6_1 x15_1 (a0.size:Int) x15_1 (decide ((x4_1.length:Int) > 0))) else (impl_ParseTrie.j2 kj44 a0 x4_1 x5_1 x6_1 x15_1 (a0.size:Int) x15_1 false)) else (impl_ParseTrie.j2 kj44 a0 x4_1 x5_1 x6_1 x15_1 (a0.size:Int) x15_1 false))=some (r1,r2):=by rw [if_neg (show ¬ (false=true) by decide)] at H;exact H
                      clear H
                      have H:=H1
                      clear H1
                      have HC72:=Zz.mk H
                      clear H
                      go_upto_region 14 with (fail)
                      repeat (go_quiet (fail);go_upto_region 14 with (fail))
                      go_cut [58] (fun v58 wc=>∃ (kq:Nat) (x58_71:Bool),v58=.bool x58_71∧Zz (impl_ParseTrie.j2 kq a0 x4_1 x5_1 x6_1 x15_1 (a0.size:Int) x15_1 x58_71=some (r1,r2))∧Zz (kq≤kj44)∧Zz (Kd.R (Kd.int .i64) 3 wc w.heap.size (fun _=>True) u4 x4_1)∧Zz (Kd.R Kd.string 9 wc w.heap.size (fun _=>True) u6 x6_1)∧Zz (wc.heap[gb531]?=some (.cells #[(.slice none 0 0)] 24 (0,0)))∧Zz (Below w.heap.size w wc))
                      case first =>
                        have H:=HC72.out
                        clear HC72
                        by_cases c73:(bt a0 x15_1) ≥ 97
                        · rw [if_pos c73] at H
                          have c73b0:decide (97≤(bt a0 x15_1))=true:=decide_eq_true c73
                          clear c73
                          (first|rw [c73b0]|(simp only [i64_w,i32_w];rw [c73b0])|skip)
                          by_cases c74:(bt a0 x15_1)≤122
                          · rw [if_pos c74] at H
                            have c74b0:decide ((bt a0 x15_1)≤122)=true:=decide_eq_true c74
                            clear c74
                            have H':=Zz.mk H
                            clear H
                            obtain ⟨Ao75,co75,eo75⟩:=Kd.R_slice HO_4.out
                            subst eo75
                            go_wp2
                            repeat (go_quiet (fail);try go_wp2)
                            go_meet
                            case rel=>exact ⟨_,(decide ((x4_1.length:Int) > 0)),(by first|rfl|(simp;done)|(simp [*];done)),H',⟨by have:=HK1.out;have:=HJ44.out;first|omega|exact Nat.le_refl _⟩,⟨by (with_reducible repeat first|apply Kd.R_alloc|apply Kd.R_drewN|apply Kd.R_drew);exact HO_4.out⟩,⟨by (with_reducible repeat first|apply Kd.R_alloc|apply Kd.R_drewN|apply Kd.R_drew);exact HO_6.out⟩,⟨by (with_reducible repeat first|apply bN|apply bD|apply bA);exact BK531.out⟩,⟨by repeat (first|(with_reducible first|exact HB.out|apply qA|apply qN|apply q1_|refine qS ?_ GE531.out)|exact HB.out)⟩⟩
                          · rw [if_neg c74] at H
                            have c74b0:decide ((bt a0 x15_1)≤122)=false:=decide_eq_false c74
                            clear c74
                            have H':=Zz.mk H
                            clear H
                            go_wp2
                            repeat (go_quiet (fail);try go_wp2)
                            go_meet
                            case rel=>exact ⟨_,(false),(by first|rfl|(simp;done)|(simp [*];done)),H',⟨by have:=HK1.out;have:=HJ44.out;first|omega|exact Nat.le_refl _⟩,⟨by (with_reducible repeat first|apply Kd.R_alloc|apply Kd.R_drewN|apply Kd.R_drew);exact HO_4.out⟩,⟨by (with_reducible repeat first|apply Kd.R_alloc|apply Kd.R_drewN|apply Kd.R_drew);exact HO_6.out⟩,⟨by (with_reducible repeat first|apply bN|apply bD|apply bA);exact BK531.out⟩,⟨by repeat (first|(with_reducible first|exact HB.out|apply qA|apply qN|apply q1_|refine qS ?_ GE531.out)|exact HB.out)⟩⟩
                        · rw [if_neg c73] at H
                          have c73b0:decide (97≤(bt a0 x15_1))=false:=decide_eq_false c73
                          clear c73
                          (first|rw [c73b0]|(simp only [i64_w,i32_w];rw [c73b0])|skip)
                          have H':=Zz.mk H
                          clear H
                          go_wp2
                          repeat (go_quiet (fail);try go_wp2)
                          go_meet
                          case rel=>exact ⟨_,(false),(by first|rfl|(simp;done)|(simp [*];done)),H',⟨by have:=HK1.out;have:=HJ44.out;first|omega|exact Nat.le_refl _⟩,⟨by (with_reducible repeat first|apply Kd.R_alloc|apply Kd.R_drewN|apply Kd.R_drew);exact HO_4.out⟩,⟨by (with_reducible repeat first|apply Kd.R_alloc|apply Kd.R_drewN|apply Kd.R_drew);exact HO_6.out⟩,⟨by (with_reducible repeat first|apply bN|apply bD|apply bA);exact BK531.out⟩,⟨by repeat (first|(with_reducible first|exact HB.out|apply qA|apply qN|apply q1_|refine qS ?_ GE531.out)|exact HB.out)⟩⟩
                      case rest =>
                        clear HC72
                        try clear c1
                        try clear p1
                        try clear q1
                        try clear hx1
                        try clear c2
                        try clear p2
                        try clear c3
                        try clear c4
                        try clear c5
                        try clear p5
                        try clear q5
                        try clear hx5
                        try clear c6
                        try clear p6
                        try clear q6
                        try clear c7
                        try clear c7b0
                        try clear q7
                        try clear c8
                        try clear c8b0
                        try clear c9
                        try clear c9b0
                        try clear p10
                        try clear q10
                        try clear hx10
                        try clear c11
                        try clear c11b0
                        try clear c11b1
                        try clear c12
                        try clear c13
                        try clear c13b0
                        try clear c13b1
                        try clear c16
                        try clear c16b0
                        try clear c16b1
                        try clear c20
                        try clear c20b0
                        try clear c20b1
                        try clear c28
                        try clear c28b0
                        try clear c28b1
                        try clear c29
                        try clear c30
                        try clear c30b0
                        try clear c30b1
                        try clear c33
                        try clear c33b0
                        try clear c33b1
                        try clear c37
                        try clear c37b0
                        try clear c37b1
                        try clear c46
                        try clear c46b0
                        try clear c46b1
                        try clear c48
                        try clear c50
                        try clear c50b0
                        try clear c51
                        try clear c51b0
                        try clear c52
                        try clear c52b0
                        try clear c52b1
                        try clear c53
                        try clear c53b0
                        try clear c53b1
                        try clear c54
                        try clear c54b0
                        try clear c54b1
                        try clear p54
                        try clear q54
                        try clear hx54
                        try clear c55
                        try clear c55b0
                        try clear c55b1
                        try clear q57
                        try clear c59
                        try clear c59b0
                        try clear c59b1
                        try clear q61
                        try clear c64
                        try clear c64b0
                        try clear c64b1
                        try clear p64
                        try clear q66
                        try clear q70
                        try clear c73
                        try clear c73b0
                        try clear c74
                        try clear c74b0
                        try clear hcz15_0
                        try clear hcz19_0
                        try clear hcz24_0
                        try clear hcz32_0
                        try clear hcz36_0
                        try clear hcz41_0
                        try clear hcz58_0
                        try clear hcz63_0
                        try clear hcz68_0
                        try clear hfz15_0
                        try clear hfz19_0
                        try clear hfz24_0
                        try clear hfz32_0
                        try clear hfz36_0
                        try clear hfz41_0
                        try clear hfz58_0
                        try clear hfz63_0
                        try clear hfz68_0
                        try clear hx544_0
                        try clear p1
                        try clear p10
                        try clear p2
                        try clear p544
                        try clear p6
                        try clear q1
                        try clear q10
                        try clear q544
                        try clear q57
                        try clear q61
                        try clear q66
                        try clear q70
                        obtain ⟨kq,x58_71,rfl,HA,HJ71,HO_4,HO_6,BK531,HB⟩:=hcut
                        cases kq with
                        | zero=>exact absurd HA.out (by simp [impl_ParseTrie.j2])
                        | succ kj71 =>
                          have H:=HA.out
                          clear HA
                          simp only [impl_ParseTrie.j2] at H
                          by_cases c76:x58_71=true
                          · subst c76
                            have H1:(if 0≤(wrap64 ((x4_1.length:Int) - 1)) then (if (wrap64 ((x4_1.length:Int) - 1))<(x4_1.length:Int) then (if 0≤(rd x4_1 (wrap64 ((x4_1.length:Int) - 1))) then (if (rd x4_1 (wrap64 ((x4_1.length:Int) - 1)))≤(x5_1.size:Int) then (if 0≤x15_1 then (if x15_1≤(wrap64 (x15_1+1)) then (if (wrap64 (x15_1+1))≤(a0.size:Int) then (if (x5_1.extract 0 ((rd x4_1 (wrap64 ((x4_1.length:Int) - 1))):Int).toNat).size+(a0.extract (x15_1:Int).toNat ((wrap64 (x15_1+1)):Int).toNat).size≤9223372036854775807 then (if (((x5_1.extract 0 ((rd x4_1 (wrap64 ((x4_1.length:Int) - 1))):Int).toNat) ++ (a0.extract (x15_1:Int).toNat ((wrap64 (x15_1+1)):Int).toNat)).size:Int) > 12 then (some (([]:List (S62)),false)) else (if (x6_1.length:Int) > 40 then (some (([]:List (S62)),false)) else (if (x4_1.length:Int) > 12 then (some (([]:List (S62)),false)) else (impl_ParseTrie.l0 kj71 a0 x4_1 ((x5_1.extract 0 ((rd x4_1 (wrap64 ((x4_1.length:Int) - 1))):Int).toNat) ++ (a0.extract (x15_1:Int).toNat ((wrap64 (x15_1+1)):Int).toNat)) x6_1 (a0.size:Int) (wrap64 (x15_1+1)))))) else (none)) else (none)) else (none)) else (none)) else (none)) else (none)) else (none)) else (none))=some (r1,r2):=by rw [if_pos rfl] at H;exact H
                            clear H
                            have H:=H1
                            clear H1
                            obtain ⟨ji77,hji77⟩:∃ j_:Int,(wrap64 ((x4_1.length:Int) - 1))=j_:=⟨_,rfl⟩
                            replace H:(if 0≤(ji77) then (if (ji77)<(x4_1.length:Int) then (if 0≤(rd x4_1 (ji77)) then (if (rd x4_1 (ji77))≤(x5_1.size:Int) then (if 0≤x15_1 then (if x15_1≤(wrap64 (x15_1+1)) then (if (wrap64 (x15_1+1))≤(a0.size:Int) then (if (x5_1.extract 0 ((rd x4_1 (ji77)):Int).toNat).size+(a0.extract (x15_1:Int).toNat ((wrap64 (x15_1+1)):Int).toNat).size≤9223372036854775807 then (if (((x5_1.extract 0 ((rd x4_1 (ji77)):Int).toNat) ++ (a0.extract (x15_1:Int).toNat ((wrap64 (x15_1+1)):Int).toNat)).size:Int) > 12 then (some (([]:List (S62)),false)) else (if (x6_1.length:Int) > 40 then (some (([]:List (S62)),false)) else (if (x4_1.length:Int) > 12 then (some (([]:List (S62)),false)) else (impl_ParseTrie.l0 kj71 a0 x4_1 ((x5_1.extract 0 ((rd x4_1 (ji77)):Int).toNat) ++ (a0.extract (x15_1:Int).toNat ((wrap64 (x15_1+1)):Int).toNat)) x6_1 (a0.size:Int) (wrap64 (x15_1+1)))))) else (none)) else (none)) else (none)) else (none)) else (none)) else (none)) else (none)) else (none))=some (r1,r2):=by first|(rw [hji77] at H;exact H)|(simp only [hji77] at H ⊢;exact H)
                            have hji77w:(IntKind.i64.wrap ((x4_1.length:Int) - 1))=ji77:=(i64_w _).trans hji77
                            by_cases c78:0≤(ji77)
                            · rw [if_pos c78] at H
                              have c78b0:decide (0≤(ji77))=true:=decide_eq_true c78
                              clear c78
                              by_cases c79:(ji77)<(x4_1.length:Int)
                              · rw [if_pos c79] at H
                                have c79b0:decide ((ji77)<(x4_1.length:Int))=true:=decide_eq_true c79
                                clear c79
                                by_cases c80:0≤(rd x4_1 (ji77))
                                · rw [if_pos c80] at H
                                  have c80b0:=eq_true c80
                                  have c80b1:decide (0≤(rd x4_1 (ji77)))=true:=decide_eq_true c80
                                  clear c80
                                  by_cases c81:(rd x4_1 (ji77))≤(x5_1.size:Int)
                                  · rw [if_pos c81] at H
                                    have c81b0:=eq_true c81
                                    have c81b1:decide ((rd x4_1 (ji77))≤(x5_1.size:Int))=true:=decide_eq_true c81
                                    clear c81
                                    by_cases c82:0≤x15_1
                                    · rw [if_pos c82] at H
                                      have c82b0:=eq_true c82
                                      have c82b1:decide (0≤x15_1)=true:=decide_eq_true c82
                                      clear c82
                                      by_cases c83:x15_1≤(wrap64 (x15_1+1))
                                      · rw [if_pos c83] at H
                                        have c83b0:=eq_true c83
                                        have c83b1:decide (x15_1≤(wrap64 (x15_1+1)))=true:=decide_eq_true c83
                                        by_cases c84:(wrap64 (x15_1+1))≤(a0.size:Int)
                                        · rw [if_pos c84] at H
                                          have c84b0:=eq_true c84
                                          have c84b1:decide ((wrap64 (x15_1+1))≤(a0.size:Int))=true:=decide_eq_true c84
                                          by_cases c85:(x5_1.extract 0 ((rd x4_1 (ji77)):Int).toNat).size+(a0.extract (x15_1:Int).toNat ((wrap64 (x15_1+1)):Int).toNat).size≤9223372036854775807
                                          · rw [if_pos c85] at H
                                            have c85b0:=eq_true c85
                                            have c85b1:decide ((x5_1.extract 0 ((rd x4_1 (ji77)):Int).toNat).size+(a0.extract (x15_1:Int).toNat ((wrap64 (x15_1+1)):Int).toNat).size≤9223372036854775807)=true:=decide_eq_true c85
                                            try have c85b2:(9223372036854775807<(x5_1.extract 0 ((rd x4_1 (ji77)):Int).toNat).size+(a0.extract (x15_1:Int).toNat ((wrap64 (x15_1+1)):Int).toNat).size)=False:=eq_false (Nat.not_lt.2 c85)
                                            by_cases c86:(((x5_1.extract 0 ((rd x4_1 (ji77)):Int).toNat) ++ (a0.extract (x15_1:Int).toNat ((wrap64 (x15_1+1)):Int).toNat)).size:Int) > 12
                                            · rw [if_pos c86] at H
                                              have c86b0:decide (12<(((x5_1.extract 0 ((rd x4_1 (ji77)):Int).toNat) ++ (a0.extract (x15_1:Int).toNat ((wrap64 (x15_1+1)):Int).toNat)).size:Int))=true:=decide_eq_true c86
                                              have c86b0z:=c86b0
                                              (try simp only [ByteArray.size_append,Int.natCast_add] at c86b0z)
                                              (try simp only [show ∀ b_:UInt8,(⟨#[b_]⟩:ByteArray).size=1 from fun _=>rfl,show ((1:Nat):Int)=1 from rfl] at c86b0z)
                                              have c86b1:decide (12<((x5_1.extract 0 ((rd x4_1 (ji77)):Int).toNat) ++ (a0.extract (x15_1:Int).toNat ((wrap64 (x15_1+1)):Int).toNat)).size)=true:=decide_eq_true (by omega)
                                              have c86b2:(12<max (rd x4_1 ji77) 0+(((wrap64 (x15_1+1)).toNat - (x15_1:Int).toNat:Nat):Int))=True:=eq_true (by have f1_:0≤rd x4_1 ji77:=of_eq_true (by assumption);have f2_:rd x4_1 ji77≤(x5_1.size:Int):=of_eq_true (by assumption);have f4_:wrap64 (x15_1+1)≤(a0.size:Int):=of_eq_true (by assumption);have f3_:((x5_1.extract 0 (rd x4_1 ji77).toNat) ++ (a0.extract (x15_1:Int).toNat (wrap64 (x15_1+1)).toNat)).size=(rd x4_1 ji77).toNat+((wrap64 (x15_1+1)).toNat - (x15_1:Int).toNat):=(by rw [ByteArray.size_append,ByteArray.size_extract,ByteArray.size_extract];omega);omega)
                                              have c86b1z:=c86b1
                                              (try simp only [ByteArray.size_append,Int.natCast_add] at c86b1z)
                                              (try simp only [show ∀ b_:UInt8,(⟨#[b_]⟩:ByteArray).size=1 from fun _=>rfl,show ((1:Nat):Int)=1 from rfl] at c86b1z)
                                              clear c86
                                              simp only [Option.some.injEq,Prod.mk.injEq] at H
                                              obtain ⟨rfl,rfl⟩:=H
                                              obtain ⟨Ao87,co87,eo87⟩:=Kd.R_slice HO_4.out
                                              subst eo87
                                              have p548:0≤((ji77):Int):=of_decide_eq_true (by first|(with_reducible assumption)|assumption)
                                              have q548:(ji77)<(x4_1.length:Int):=of_decide_eq_true (by first|(with_reducible assumption)|assumption)
                                              obtain ⟨ad548,e548,hx548_0⟩:=Kd.at_int (Kd.R_reads' HO_4.out).2.2 (ji77) p548 q548
                                              cases e548
                                              replace p548:=eq_true p548
                                              replace q548:=eq_true q548
                                              have hcz88_0:wc.cell? ⟨gb531,0,none⟩=some (.slice none 0 0):=(bC BK531.out 0).trans rfl
                                              have hfz88_0:=bF BK531.out 0
                                              go_wp2
                                              repeat (go_quiet (fail);try go_wp2)
                                              refine bodyPost_ret (results_ct rfl _ _ gb531 24 #[.slice none 0 0] (0,0) _ rfl (by (with_reducible repeat first|apply bN|apply bD|apply bA);refine blk_put (cs:=#[.slice none 0 0]) ?_ 0 _ rfl;(with_reducible repeat first|apply bN|apply bD|apply bA);exact BK531.out) Try.underlying24 rfl (by kernel_rfl)) rfl ?_
                                              exact ⟨_,by first|rfl|(simp [errW_none,errW_some] <;> rfl)|(simp only [← hji77];first|rfl|(simp [errW_none,errW_some] <;> rfl))|(simp [*,errW_none,errW_some] <;> rfl),by first|exact Kd.R_nil _ _ _ _ _|exact Kd.N_nil _ _ _ _ _|exact Kd.V_nil _ _ _ _ _|exact Kd.Q_nil _ _ _ _ _|exact Kd.S_nil _ _ _ _ _,by repeat (first|(with_reducible first|exact HB.out|apply qA|apply qN|apply q1_|refine qS ?_ GE531.out)|exact HB.out)⟩
                                            · rw [if_neg c86] at H
                                              have c86b0:decide (12<(((x5_1.extract 0 ((rd x4_1 (ji77)):Int).toNat) ++ (a0.extract (x15_1:Int).toNat ((wrap64 (x15_1+1)):Int).toNat)).size:Int))=false:=decide_eq_false c86
                                              have c86b0z:=c86b0
                                              (try simp only [ByteArray.size_append,Int.natCast_add] at c86b0z)
                                              (try simp only [show ∀ b_:UInt8,(⟨#[b_]⟩:ByteArray).size=1 from fun _=>rfl,show ((1:Nat):Int)=1 from rfl] at c86b0z)
                                              have c86b1:decide (12<((x5_1.extract 0 ((rd x4_1 (ji77)):Int).toNat) ++ (a0.extract (x15_1:Int).toNat ((wrap64 (x15_1+1)):Int).toNat)).size)=false:=decide_eq_false (by omega)
                                              have c86b2:(12<max (rd x4_1 ji77) 0+(((wrap64 (x15_1+1)).toNat - (x15_1:Int).toNat:Nat):Int))=False:=eq_false (by have f1_:0≤rd x4_1 ji77:=of_eq_true (by assumption);have f2_:rd x4_1 ji77≤(x5_1.size:Int):=of_eq_true (by assumption);have f4_:wrap64 (x15_1+1)≤(a0.size:Int):=of_eq_true (by assumption);have f3_:((x5_1.extract 0 (rd x4_1 ji77).toNat) ++ (a0.extract (x15_1:Int).toNat (wrap64 (x15_1+1)).toNat)).size=(rd x4_1 ji77).toNat+((wrap64 (x15_1+1)).toNat - (x15_1:Int).toNat):=(by rw [ByteArray.size_append,ByteArray.size_extract,ByteArray.size_extract];omega);omega)
                                              have c86b1z:=c86b1
                                              (try simp only [ByteArray.size_append,Int.natCast_add] at c86b1z)
                                              (try simp only [show ∀ b_:UInt8,(⟨#[b_]⟩:ByteArray).size=1 from fun _=>rfl,show ((1:Nat):Int)=1 from rfl] at c86b1z)
                                              clear c86
                                              by_cases c89:(x6_1.length:Int) > 40
                                              · rw [if_pos c89] at H
                                                have c89b0:decide (40<(x6_1.length:Int))=true:=decide_eq_true c89
                                                have c89b1:decide (40<x6_1.length)=true:=decide_eq_true (by omega)
                                                clear c89
                                                simp only [Option.some.injEq,Prod.mk.injEq] at H
                                                obtain ⟨rfl,rfl⟩:=H
                                                obtain ⟨Ao90,co90,eo90⟩:=Kd.R_slice HO_4.out
                                                subst eo90
                                                have p548:0≤((ji77):Int):=of_decide_eq_true (by first|(with_reducible assumption)|assumption)
                                                have q548:(ji77)<(x4_1.length:Int):=of_decide_eq_true (by first|(with_reducible assumption)|assumption)
                                                obtain ⟨ad548,e548,hx548_0⟩:=Kd.at_int (Kd.R_reads' HO_4.out).2.2 (ji77) p548 q548
                                                cases e548
                                                replace p548:=eq_true p548
                                                replace q548:=eq_true q548
                                                obtain ⟨Ao91,co91,eo91⟩:=Kd.R_slice HO_6.out
                                                subst eo91
                                                have hcz92_0:wc.cell? ⟨gb531,0,none⟩=some (.slice none 0 0):=(bC BK531.out 0).trans rfl
                                                have hfz92_0:=bF BK531.out 0
                                                go_wp2
                                                repeat (go_quiet (fail);try go_wp2)
                                                refine bodyPost_ret (results_ct rfl _ _ gb531 24 #[.slice none 0 0] (0,0) _ rfl (by (with_reducible repeat first|apply bN|apply bD|apply bA);refine blk_put (cs:=#[.slice none 0 0]) ?_ 0 _ rfl;(with_reducible repeat first|apply bN|apply bD|apply bA);exact BK531.out) Try.underlying24 rfl (by kernel_rfl)) rfl ?_
                                                exact ⟨_,by first|rfl|(simp [errW_none,errW_some] <;> rfl)|(simp only [← hji77];first|rfl|(simp [errW_none,errW_some] <;> rfl))|(simp [*,errW_none,errW_some] <;> rfl),by first|exact Kd.R_nil _ _ _ _ _|exact Kd.N_nil _ _ _ _ _|exact Kd.V_nil _ _ _ _ _|exact Kd.Q_nil _ _ _ _ _|exact Kd.S_nil _ _ _ _ _,by repeat (first|(with_reducible first|exact HB.out|apply qA|apply qN|apply q1_|refine qS ?_ GE531.out)|exact HB.out)⟩
                                              · rw [if_neg c89] at H
                                                have c89b0:decide (40<(x6_1.length:Int))=false:=decide_eq_false c89
                                                have c89b1:decide (40<x6_1.length)=false:=decide_eq_false (by omega)
                                                clear c89
                                                by_cases c93:(x4_1.length:Int) > 12
                                                · rw [if_pos c93] at H
                                                  have c93b0:decide (12<(x4_1.length:Int))=true:=decide_eq_true c93
                                                  have c93b1:decide (12<x4_1.length)=true:=decide_eq_true (by omega)
                                                  clear c93
                                                  simp only [Option.some.injEq,Prod.mk.injEq] at H
                                                  obtain ⟨rfl,rfl⟩:=H
                                                  obtain ⟨Ao94,co94,eo94⟩:=Kd.R_slice HO_4.out
                                                  subst eo94
                                                  have p548:0≤((ji77):Int):=of_decide_eq_true (by first|(with_reducible assumption)|assumption)
                                                  have q548:(ji77)<(x4_1.length:Int):=of_decide_eq_true (by first|(with_reducible assumption)|assumption)
                                                  obtain ⟨ad548,e548,hx548_0⟩:=Kd.at_int (Kd.R_reads' HO_4.out).2.2 (ji77) p548 q548
                                                  cases e548
                                                  replace p548:=eq_true p548
                                                  replace q548:=eq_true q548
                                                  obtain ⟨Ao95,co95,eo95⟩:=Kd.R_slice HO_6.out
                                                  subst eo95
                                                  have hcz96_0:wc.cell? ⟨gb531,0,none⟩=some (.slice none 0 0):=(bC BK531.out 0).trans rfl
                                                  have hfz96_0:=bF BK531.out 0
                                                  go_wp2
                                                  repeat (go_quiet (fail);try go_wp2)
                                                  refine bodyPost_ret (results_ct rfl _ _ gb531 24 #[.slice none 0 0] (0,0) _ rfl (by (with_reducible repeat first|apply bN|apply bD|apply bA);refine blk_put (cs:=#[.slice none 0 0]) ?_ 0 _ rfl;(with_reducible repeat first|apply bN|apply bD|apply bA);exact BK531.out) Try.underlying24 rfl (by kernel_rfl)) rfl ?_
                                                  exact ⟨_,by first|rfl|(simp [errW_none,errW_some] <;> rfl)|(simp only [← hji77];first|rfl|(simp [errW_none,errW_some] <;> rfl))|(simp [*,errW_none,errW_some] <;> rfl),by first|exact Kd.R_nil _ _ _ _ _|exact Kd.N_nil _ _ _ _ _|exact Kd.V_nil _ _ _ _ _|exact Kd.Q_nil _ _ _ _ _|exact Kd.S_nil _ _ _ _ _,by repeat (first|(with_reducible first|exact HB.out|apply qA|apply qN|apply q1_|refine qS ?_ GE531.out)|exact HB.out)⟩
                                                · rw [if_neg c93] at H
                                                  have c93b0:decide (12<(x4_1.length:Int))=false:=decide_eq_false c93
                                                  have c93b1:decide (12<x4_1.length)=false:=decide_eq_false (by omega)
                                                  clear c93
                                                  have H':=Zz.mk H
                                                  clear H
                                                  obtain ⟨Ao97,co97,eo97⟩:=Kd.R_slice HO_4.out
                                                  subst eo97
                                                  have p548:0≤((ji77):Int):=of_decide_eq_true (by first|(with_reducible assumption)|assumption)
                                                  have q548:(ji77)<(x4_1.length:Int):=of_decide_eq_true (by first|(with_reducible assumption)|assumption)
                                                  obtain ⟨ad548,e548,hx548_0⟩:=Kd.at_int (Kd.R_reads' HO_4.out).2.2 (ji77) p548 q548
                                                  cases e548
                                                  replace p548:=eq_true p548
                                                  replace q548:=eq_true q548
                                                  obtain ⟨Ao98,co98,eo98⟩:=Kd.R_slice HO_6.out
                                                  subst eo98
                                                  go_wp2
                                                  repeat (go_quiet (fail);try go_wp2)
                                                  go_roundg kj71
                                                  case measure=>have:=HK1.out;have:=HJ44.out;have:=HJ71.out;omega
                                                  case rel=>exact ⟨(x4_1),((x5_1.extract 0 ((rd x4_1 (ji77)):Int).toNat) ++ (a0.extract (x15_1:Int).toNat ((wrap64 (x15_1+1)):Int).toNat)),(x6_1),(wrap64 (x15_1+1)),(by first|rfl|(simp;done)|(simp only [← hji77] <;> (first|rfl|simp))|(simp [*];done)),(by first|rfl|(simp;done)|(simp [*];done)),H',⟨by have:=HK1.out;have:=HJ44.out;have:=HJ71.out;omega⟩,⟨by (with_reducible repeat first|apply Kd.R_alloc|apply Kd.R_drewN|apply Kd.R_drew);exact HO_4.out⟩,⟨by (with_reducible repeat first|apply Kd.R_alloc|apply Kd.R_drewN|apply Kd.R_drew);exact HO_6.out⟩,⟨by (with_reducible repeat first|apply bN|apply bD|apply bA);exact BK531.out⟩,⟨by repeat (first|(with_reducible first|exact HB.out|apply qA|apply qN|apply q1_|refine qS ?_ GE531.out)|exact HB.out)⟩⟩
                                          · rw [if_neg c85] at H
                                            exact absurd H (by simp)
                                        · rw [if_neg c84] at H
                                          exact absurd H (by simp)
                                      · rw [if_neg c83] at H
                                        exact absurd H (by simp)
                                    · rw [if_neg c82] at H
                                      exact absurd H (by simp)
                                  · rw [if_neg c81] at H
                                    exact absurd H (by simp)
                                · rw [if_neg c80] at H
                                  exact absurd H (by simp)
                              · rw [if_neg c79] at H
                                exact absurd H (by simp)
                            · rw [if_neg c78] at H
                              exact absurd H (by simp)
                          · replace c76:=Bool.eq_false_iff.mpr c76
                            subst c76
                            have H1:(some (([]:List (S62)),false))=some (r1,r2):=by rw [if_neg (show ¬ (false=true) by decide)] at H;exact H
                            clear H
                            have H:=H1
                            clear H1
                            simp only [Option.some.injEq,Prod.mk.injEq] at H
                            obtain ⟨rfl,rfl⟩:=H
                            have hcz99_0:wc.cell? ⟨gb531,0,none⟩=some (.slice none 0 0):=(bC BK531.out 0).trans rfl
                            have hfz99_0:=bF BK531.out 0
                            go_wp2
                            repeat (go_quiet (fail);try go_wp2)
                            refine bodyPost_ret (results_ct rfl _ _ gb531 24 #[.slice none 0 0] (0,0) _ rfl (by (with_reducible repeat first|apply bN|apply bD|apply bA);refine blk_put (cs:=#[.slice none 0 0]) ?_ 0 _ rfl;(with_reducible repeat first|apply bN|apply bD|apply bA);exact BK531.out) Try.underlying24 rfl (by kernel_rfl)) rfl ?_
                            exact ⟨_,by first|rfl|(simp [errW_none,errW_some] <;> rfl)|(simp [*,errW_none,errW_some] <;> rfl),by first|exact Kd.R_nil _ _ _ _ _|exact Kd.N_nil _ _ _ _ _|exact Kd.V_nil _ _ _ _ _|exact Kd.Q_nil _ _ _ _ _|exact Kd.S_nil _ _ _ _ _,by repeat (first|(with_reducible first|exact HB.out|apply qA|apply qN|apply q1_|refine qS ?_ GE531.out)|exact HB.out)⟩
          · rw [if_neg c9] at H
            exact absurd H (by simp)
        · rw [if_neg c8] at H
          exact absurd H (by simp)
      · rw [if_neg c7] at H
        have c7b0:decide (x15_1<(a0.size:Int))=false:=decide_eq_false c7
        clear c7
        replace H:=Option.bind_eq_some_iff.mp H
        obtain ⟨⟨t549,t552⟩,A1000,H⟩:=H
        replace H:(if t552=true then ((impl_Trie_text.f k1 t549 0).bind fun t554=>(if t554.toList=a0.toList then (some (t549,true)) else (some (([]:List (S62)),false)))) else (some (([]:List (S62)),false)))=some (r1,r2):=H
        have A100:=Zz.mk A1000
        clear A1000
        by_cases c101:t552=true
        · subst c101
          have H1:((impl_Trie_text.f k1 t549 0).bind fun t554=>(if t554.toList=a0.toList then (some (t549,true)) else (some (([]:List (S62)),false))))=some (r1,r2):=by rw [if_pos rfl] at H;exact H
          clear H
          have H:=H1
          clear H1
          replace H:=Option.bind_eq_some_iff.mp H
          obtain ⟨t554,A1020,H⟩:=H
          replace H:(if t554.toList=a0.toList then (some (t549,true)) else (some (([]:List (S62)),false)))=some (r1,r2):=H
          have A102:=Zz.mk A1020
          clear A1020
          by_cases c103:t554.toList=a0.toList
          · rw [if_pos c103] at H
            have c103b0:(t554.toList == a0.toList)=true:=beq_iff_eq.mpr c103
            have c103b1:(t554.toList != a0.toList)=false:=bne_eq_false_iff_eq.mpr c103
            clear c103
            simp only [Option.some.injEq,Prod.mk.injEq] at H
            obtain ⟨rfl,rfl⟩:=H
            obtain ⟨Ao104,co104,eo104⟩:=Kd.R_slice HO_6.out
            subst eo104
            go_wp2_with (first|(go_at_call 18;(with_reducible refine (impl_ofWords.calls _ _ x6_1 t549 true _ ?side1 ?side2 A100.out).mono ?_);(case side1=>repeat (first|exact (Kd.R_reads' HO_6.out).2.2|(with_reducible refine Kd.C_alloc ?_ _)|(with_reducible refine Kd.C_drewN ?_ _)|(with_reducible refine Kd.C_drew ?_)));(case side2=>exact (Kd.R_reads' HO_6.out).2.1);rintro e w105 ⟨v550,rfl,ho0,hb⟩;have n0_:=Zz.mk (Kd.R_below (by (with_reducible repeat first|apply Kd.R_alloc|apply Kd.R_drewN|apply Kd.R_drew);exact HO_4.out) hb);have n1_:=Zz.mk (Kd.R_below (by (with_reducible repeat first|apply Kd.R_alloc|apply Kd.R_drewN|apply Kd.R_drew);exact HO_6.out) hb);have n2_:=Zz.mk (Kd.R_lower ho0 (qZ (by repeat (first|(with_reducible first|exact HB.out|apply qA|apply qN|apply q1_|refine qS ?_ GE531.out)|exact HB.out))));have n3_:=Zz.mk (bB (g:=gb531) (o:=.cells #[.slice none 0 0] 24 (0,0)) (by (with_reducible repeat first|apply bN|apply bD|apply bA);exact BK531.out) hb);have n4_:=Zz.mk (qP (by repeat (first|(with_reducible first|exact HB.out|apply qA|apply qN|apply q1_|refine qS ?_ GE531.out)|exact HB.out)) hb);clear HO_4;clear HO_6;clear BK531;clear HB;have HO_4:=n0_;have HO_6:=n1_;have HO551:=n2_;have BK531:=n3_;have HB:=n4_;clear n0_ n1_ n2_ n3_ n4_;(try clear hb);(try clear hb2);(try clear hk);(try clear hi);(try clear ho0))|((with_reducible refine gate_dst (N:=9) rfl ?_);(try (refine gate_guard (by rfl) ?_;dsimp only));refine box_event ?hg (N:=9) ?hd (cs:=#[.slice none 0 0]) (t:=24) ?hr ?_;(case hd=>rfl);(case hg=>rfl);(case hr=>first|(go_simp;done)|(go_simp;rfl));intro gb553 hg w106 hbox hb;have n0_:=Zz.mk (Kd.R_below (by (with_reducible repeat first|apply Kd.R_alloc|apply Kd.R_drewN|apply Kd.R_drew);exact HO_4.out) hb);have n1_:=Zz.mk (Kd.R_below (by (with_reducible repeat first|apply Kd.R_alloc|apply Kd.R_drewN|apply Kd.R_drew);exact HO_6.out) hb);have n2_:=Zz.mk (Kd.R_below (by (with_reducible repeat first|apply Kd.R_alloc|apply Kd.R_drewN|apply Kd.R_drew);exact HO551.out) hb);have n3_:=Zz.mk (bB (g:=gb531) (o:=.cells #[.slice none 0 0] 24 (0,0)) (by (with_reducible repeat first|apply bN|apply bD|apply bA);exact BK531.out) hb);have n4_:=Zz.mk (qP (by repeat (first|(with_reducible first|exact HB.out|apply qA|apply qN|apply q1_|refine qS ?_ GE531.out)|exact HB.out)) hb);have n5_:=Zz.mk (hbox);have n6_:=Zz.mk ((by rw [hg];exact (qZ (by repeat (first|(with_reducible first|exact HB.out|apply qA|apply qN|apply q1_|refine qS ?_ GE531.out)|exact HB.out))):w.heap.size≤gb553));have n7_:=Zz.mk ((by rw [hg];exact (qZ (by repeat (first|(with_reducible first|exact HB.out|apply qA|apply qN|apply q1_|refine qS ?_ GE531.out)|exact HB.out))):w.heap.size≤gb553));have n8_:=Zz.mk ((by rw [hg];exact Nat.ne_of_lt (blk_lt (g:=gb531) (o:=.cells #[.slice none 0 0] 24 (0,0)) (by (with_reducible repeat first|apply bN|apply bD|apply bA);exact BK531.out)):gb531 ≠ gb553));have n9_:=Zz.mk ((by rw [hg];exact Nat.ne_of_gt (blk_lt (g:=gb531) (o:=.cells #[.slice none 0 0] 24 (0,0)) (by (with_reducible repeat first|apply bN|apply bD|apply bA);exact BK531.out)):gb553 ≠ gb531));clear HO_4;clear HO_6;clear HO551;clear BK531;clear HB;have HO_4:=n0_;have HO_6:=n1_;have HO551:=n2_;have BK531:=n3_;have HB:=n4_;have BK553:=n5_;have GW553:=n6_;have GE553:=n7_;have NB531_553:=n8_;have NB553_531:=n9_;clear n0_ n1_ n2_ n3_ n4_ n5_ n6_ n7_ n8_ n9_;clear hb hbox hg;obtain ⟨Ao107,co107,eo107⟩:=Kd.R_slice HO551.out;subst eo107;have hnb108:=NB553_531.out;have hnc108:=NB531_553.out;have hcz109_0:w106.cell? ⟨gb553,0,none⟩=some (.slice none 0 0):=(bC BK553.out 0).trans rfl;have hfz109_0:=bF BK553.out 0)|(go_at_call 19;(with_reducible refine (impl_Trie_text.calls k1 _ _ t549 0 t554 _ ?side1 ?side2 A102.out).mono ?_);(case side1=>refine (Kd.R_reads' (e:=62) (base:=w.heap.size) (ok:=fun k_=>True) (n:=t549.length) (c:=co107) ?_).2.2;exact (by (with_reducible repeat first|apply Kd.R_alloc|apply Kd.R_drewN|apply Kd.R_drew);exact (Kd.R_mono (R_same_ (Kd.R_far (p:=⟨gb553,0,none⟩) (Kd.R_types HO551.out BK553.out (by decide)) (fun _ hk=>hk.2) (.slice Ao107 t549.length co107)) rfl) (fun _ h_=>h_.1))));(case side2=>exact (Kd.R_reads' HO551.out).2.1);rintro e w110 ⟨rfl,hb⟩;have n0_:=Zz.mk (Kd.R_below (by (with_reducible repeat first|apply Kd.R_alloc|apply Kd.R_drewN|apply Kd.R_drew);exact (Kd.R_mono (R_same_ (Kd.R_far (p:=⟨gb553,0,none⟩) (Kd.R_types HO_4.out BK553.out (by decide)) (fun _ hk=>hk.2) (.slice Ao107 t549.length co107)) rfl) (fun _ h_=>h_.1))) hb);have n1_:=Zz.mk (Kd.R_below (by (with_reducible repeat first|apply Kd.R_alloc|apply Kd.R_drewN|apply Kd.R_drew);exact (Kd.R_mono (R_same_ (Kd.R_far (p:=⟨gb553,0,none⟩) (Kd.R_types HO_6.out BK553.out (by decide)) (fun _ hk=>hk.2) (.slice Ao107 t549.length co107)) rfl) (fun _ h_=>h_.1))) hb);have n2_:=Zz.mk (Kd.R_below (by (with_reducible repeat first|apply Kd.R_alloc|apply Kd.R_drewN|apply Kd.R_drew);exact (Kd.R_mono (R_same_ (Kd.R_far (p:=⟨gb553,0,none⟩) (Kd.R_types HO551.out BK553.out (by decide)) (fun _ hk=>hk.2) (.slice Ao107 t549.length co107)) rfl) (fun _ h_=>h_.1))) hb);have n3_:=Zz.mk (bB (g:=gb531) (o:=.cells #[.slice none 0 0] 24 (0,0)) (by (with_reducible repeat first|apply bN|apply bD|apply bA);refine blk_far ?_ NB531_553.out _;(with_reducible repeat first|apply bN|apply bD|apply bA);exact BK531.out) hb);have n4_:=Zz.mk (bB (g:=gb553) (o:=.cells #[.slice Ao107 t549.length co107] 24 (0,0)) (by (with_reducible repeat first|apply bN|apply bD|apply bA);refine blk_put (cs:=#[.slice none 0 0]) ?_ 0 _ rfl;(with_reducible repeat first|apply bN|apply bD|apply bA);exact BK553.out) hb);have n5_:=Zz.mk (qP (by repeat (first|(with_reducible first|exact HB.out|apply qA|apply qN|apply q1_|refine qS ?_ GE531.out|refine qS ?_ GE553.out)|exact HB.out)) hb);clear HO_4;clear HO_6;clear HO551;clear BK531;clear BK553;clear HB;have HO_4:=n0_;have HO_6:=n1_;have HO551:=n2_;have BK531:=n3_;have BK553:=n4_;have HB:=n5_;clear n0_ n1_ n2_ n3_ n4_ n5_;(try clear hb);(try clear hb2);(try clear hk);(try clear hi);have hcz111_0:w110.cell? ⟨gb553,0,none⟩=some (.slice Ao107 t549.length co107):=(bC BK553.out 0).trans rfl;have hfz111_0:=bF BK553.out 0;have hcz112_0:w110.cell? ⟨gb531,0,none⟩=some (.slice none 0 0):=(bC BK531.out 0).trans rfl;have hfz112_0:=bF BK531.out 0))
            repeat (go_quiet (first|(go_at_call 18;(with_reducible refine (impl_ofWords.calls _ _ x6_1 t549 true _ ?side1 ?side2 A100.out).mono ?_);(case side1=>repeat (first|exact (Kd.R_reads' HO_6.out).2.2|(with_reducible refine Kd.C_alloc ?_ _)|(with_reducible refine Kd.C_drewN ?_ _)|(with_reducible refine Kd.C_drew ?_)));(case side2=>exact (Kd.R_reads' HO_6.out).2.1);rintro e w105 ⟨v550,rfl,ho0,hb⟩;have n0_:=Zz.mk (Kd.R_below (by (with_reducible repeat first|apply Kd.R_alloc|apply Kd.R_drewN|apply Kd.R_drew);exact HO_4.out) hb);have n1_:=Zz.mk (Kd.R_below (by (with_reducible repeat first|apply Kd.R_alloc|apply Kd.R_drewN|apply Kd.R_drew);exact HO_6.out) hb);have n2_:=Zz.mk (Kd.R_lower ho0 (qZ (by repeat (first|(with_reducible first|exact HB.out|apply qA|apply qN|apply q1_|refine qS ?_ GE531.out)|exact HB.out))));have n3_:=Zz.mk (bB (g:=gb531) (o:=.cells #[.slice none 0 0] 24 (0,0)) (by (with_reducible repeat first|apply bN|apply bD|apply bA);exact BK531.out) hb);have n4_:=Zz.mk (qP (by repeat (first|(with_reducible first|exact HB.out|apply qA|apply qN|apply q1_|refine qS ?_ GE531.out)|exact HB.out)) hb);clear HO_4;clear HO_6;clear BK531;clear HB;have HO_4:=n0_;have HO_6:=n1_;have HO551:=n2_;have BK531:=n3_;have HB:=n4_;clear n0_ n1_ n2_ n3_ n4_;(try clear hb);(try clear hb2);(try clear hk);(try clear hi);(try clear ho0))|((with_reducible refine gate_dst (N:=9) rfl ?_);(try (refine gate_guard (by rfl) ?_;dsimp only));refine box_event ?hg (N:=9) ?hd (cs:=#[.slice none 0 0]) (t:=24) ?hr ?_;(case hd=>rfl);(case hg=>rfl);(case hr=>first|(go_simp;done)|(go_simp;rfl));intro gb553 hg w106 hbox hb;have n0_:=Zz.mk (Kd.R_below (by (with_reducible repeat first|apply Kd.R_alloc|apply Kd.R_drewN|apply Kd.R_drew);exact HO_4.out) hb);have n1_:=Zz.mk (Kd.R_below (by (with_reducible repeat first|apply Kd.R_alloc|apply Kd.R_drewN|apply Kd.R_drew);exact HO_6.out) hb);have n2_:=Zz.mk (Kd.R_below (by (with_reducible repeat first|apply Kd.R_alloc|apply Kd.R_drewN|apply Kd.R_drew);exact HO551.out) hb);have n3_:=Zz.mk (bB (g:=gb531) (o:=.cells #[.slice none 0 0] 24 (0,0)) (by (with_reducible repeat first|apply bN|apply bD|apply bA);exact BK531.out) hb);have n4_:=Zz.mk (qP (by repeat (first|(with_reducible first|exact HB.out|apply qA|apply qN|apply q1_|refine qS ?_ GE531.out)|exact HB.out)) hb);have n5_:=Zz.mk (hbox);have n6_:=Zz.mk ((by rw [hg];exact (qZ (by repeat (first|(with_reducible first|exact HB.out|apply qA|apply qN|apply q1_|refine qS ?_ GE531.out)|exact HB.out))):w.heap.size≤gb553));have n7_:=Zz.mk ((by rw [hg];exact (qZ (by repeat (first|(with_reducible first|exact HB.out|apply qA|apply qN|apply q1_|refine qS ?_ GE531.out)|exact HB.out))):w.heap.size≤gb553));have n8_:=Zz.mk ((by rw [hg];exact Nat.ne_of_lt (blk_lt (g:=gb531) (o:=.cells #[.slice none 0 0] 24 (0,0)) (by (with_reducible repeat first|apply bN|apply bD|apply bA);exact BK531.out)):gb531 ≠ gb553));have n9_:=Zz.mk ((by rw [hg];exact Nat.ne_of_gt (blk_lt (g:=gb531) (o:=.cells #[.slice none 0 0] 24 (0,0)) (by (with_reducible repeat first|apply bN|apply bD|apply bA);exact BK531.out)):gb553 ≠ gb531));clear HO_4;clear HO_6;clear HO551;clear BK531;clear HB;have HO_4:=n0_;have HO_6:=n1_;have HO551:=n2_;have BK531:=n3_;have HB:=n4_;have BK553:=n5_;have GW553:=n6_;have GE553:=n7_;have NB531_553:=n8_;have NB553_531:=n9_;clear n0_ n1_ n2_ n3_ n4_ n5_ n6_ n7_ n8_ n9_;clear hb hbox hg;obtain ⟨Ao107,co107,eo107⟩:=Kd.R_slice HO551.out;subst eo107;have hnb108:=NB553_531.out;have hnc108:=NB531_553.out;have hcz109_0:w106.cell? ⟨gb553,0,none⟩=some (.slice none 0 0):=(bC BK553.out 0).trans rfl;have hfz109_0:=bF BK553.out 0)|(go_at_call 19;(with_reducible refine (impl_Trie_text.calls k1 _ _ t549 0 t554 _ ?side1 ?side2 A102.out).mono ?_);(case side1=>refine (Kd.R_reads' (e:=62) (base:=w.heap.size) (ok:=fun k_=>True) (n:=t549.length) (c:=co107) ?_).2.2;exact (by (with_reducible repeat first|apply Kd.R_alloc|apply Kd.R_drewN|apply Kd.R_drew);exact (Kd.R_mono (R_same_ (Kd.R_far (p:=⟨gb553,0,none⟩) (Kd.R_types HO551.out BK553.out (by decide)) (fun _ hk=>hk.2) (.slice Ao107 t549.length co107)) rfl) (fun _ h_=>h_.1))));(case side2=>exact (Kd.R_reads' HO551.out).2.1);rintro e w110 ⟨rfl,hb⟩;have n0_:=Zz.mk (Kd.R_below (by (with_reducible repeat first|apply Kd.R_alloc|apply Kd.R_drewN|apply Kd.R_drew);exact (Kd.R_mono (R_same_ (Kd.R_far (p:=⟨gb553,0,none⟩) (Kd.R_types HO_4.out BK553.out (by decide)) (fun _ hk=>hk.2) (.slice Ao107 t549.length co107)) rfl) (fun _ h_=>h_.1))) hb);have n1_:=Zz.mk (Kd.R_below (by (with_reducible repeat first|apply Kd.R_alloc|apply Kd.R_drewN|apply Kd.R_drew);exact (Kd.R_mono (R_same_ (Kd.R_far (p:=⟨gb553,0,none⟩) (Kd.R_types HO_6.out BK553.out (by decide)) (fun _ hk=>hk.2) (.slice Ao107 t549.length co107)) rfl) (fun _ h_=>h_.1))) hb);have n2_:=Zz.mk (Kd.R_below (by (with_reducible repeat first|apply Kd.R_alloc|apply Kd.R_drewN|apply Kd.R_drew);exact (Kd.R_mono (R_same_ (Kd.R_far (p:=⟨gb553,0,none⟩) (Kd.R_types HO551.out BK553.out (by decide)) (fun _ hk=>hk.2) (.slice Ao107 t549.length co107)) rfl) (fun _ h_=>h_.1))) hb);have n3_:=Zz.mk (bB (g:=gb531) (o:=.cells #[.slice none 0 0] 24 (0,0)) (by (with_reducible repeat first|apply bN|apply bD|apply bA);refine blk_far ?_ NB531_553.out _;(with_reducible repeat first|apply bN|apply bD|apply bA);exact BK531.out) hb);have n4_:=Zz.mk (bB (g:=gb553) (o:=.cells #[.slice Ao107 t549.length co107] 24 (0,0)) (by (with_reducible repeat first|apply bN|apply bD|apply bA);refine blk_put (cs:=#[.slice none 0 0]) ?_ 0 _ rfl;(with_reducible repeat first|apply bN|apply bD|apply bA);exact BK553.out) hb);have n5_:=Zz.mk (qP (by repeat (first|(with_reducible first|exact HB.out|apply qA|apply qN|apply q1_|refine qS ?_ GE531.out|refine qS ?_ GE553.out)|exact HB.out)) hb);clear HO_4;clear HO_6;clear HO551;clear BK531;clear BK553;clear HB;have HO_4:=n0_;have HO_6:=n1_;have HO551:=n2_;have BK531:=n3_;have BK553:=n4_;have HB:=n5_;clear n0_ n1_ n2_ n3_ n4_ n5_;(try clear hb);(try clear hb2);(try clear hk);(try clear hi);have hcz111_0:w110.cell? ⟨gb553,0,none⟩=some (.slice Ao107 t549.length co107):=(bC BK553.out 0).trans rfl;have hfz111_0:=bF BK553.out 0;have hcz112_0:w110.cell? ⟨gb531,0,none⟩=some (.slice none 0 0):=(bC BK531.out 0).trans rfl;have hfz112_0:=bF BK531.out 0));try go_wp2_with (first|(go_at_call 18;(with_reducible refine (impl_ofWords.calls _ _ x6_1 t549 true _ ?side1 ?side2 A100.out).mono ?_);(case side1=>repeat (first|exact (Kd.R_reads' HO_6.out).2.2|(with_reducible refine Kd.C_alloc ?_ _)|(with_reducible refine Kd.C_drewN ?_ _)|(with_reducible refine Kd.C_drew ?_)));(case side2=>exact (Kd.R_reads' HO_6.out).2.1);rintro e w105 ⟨v550,rfl,ho0,hb⟩;have n0_:=Zz.mk (Kd.R_below (by (with_reducible repeat first|apply Kd.R_alloc|apply Kd.R_drewN|apply Kd.R_drew);exact HO_4.out) hb);have n1_:=Zz.mk (Kd.R_below (by (with_reducible repeat first|apply Kd.R_alloc|apply Kd.R_drewN|apply Kd.R_drew);exact HO_6.out) hb);have n2_:=Zz.mk (Kd.R_lower ho0 (qZ (by repeat (first|(with_reducible first|exact HB.out|apply qA|apply qN|apply q1_|refine qS ?_ GE531.out)|exact HB.out))));have n3_:=Zz.mk (bB (g:=gb531) (o:=.cells #[.slice none 0 0] 24 (0,0)) (by (with_reducible repeat first|apply bN|apply bD|apply bA);exact BK531.out) hb);have n4_:=Zz.mk (qP (by repeat (first|(with_reducible first|exact HB.out|apply qA|apply qN|apply q1_|refine qS ?_ GE531.out)|exact HB.out)) hb);clear HO_4;clear HO_6;clear BK531;clear HB;have HO_4:=n0_;have HO_6:=n1_;have HO551:=n2_;have BK531:=n3_;have HB:=n4_;clear n0_ n1_ n2_ n3_ n4_;(try clear hb);(try clear hb2);(try clear hk);(try clear hi);(try clear ho0))|((with_reducible refine gate_dst (N:=9) rfl ?_);(try (refine gate_guard (by rfl) ?_;dsimp only));refine box_event ?hg (N:=9) ?hd (cs:=#[.slice none 0 0]) (t:=24) ?hr ?_;(case hd=>rfl);(case hg=>rfl);(case hr=>first|(go_simp;done)|(go_simp;rfl));intro gb553 hg w106 hbox hb;have n0_:=Zz.mk (Kd.R_below (by (with_reducible repeat first|apply Kd.R_alloc|apply Kd.R_drewN|apply Kd.R_drew);exact HO_4.out) hb);have n1_:=Zz.mk (Kd.R_below (by (with_reducible repeat first|apply Kd.R_alloc|apply Kd.R_drewN|apply Kd.R_drew);exact HO_6.out) hb);have n2_:=Zz.mk (Kd.R_below (by (with_reducible repeat first|apply Kd.R_alloc|apply Kd.R_drewN|apply Kd.R_drew);exact HO551.out) hb);have n3_:=Zz.mk (bB (g:=gb531) (o:=.cells #[.slice none 0 0] 24 (0,0)) (by (with_reducible repeat first|apply bN|apply bD|apply bA);exact BK531.out) hb);have n4_:=Zz.mk (qP (by repeat (first|(with_reducible first|exact HB.out|apply qA|apply qN|apply q1_|refine qS ?_ GE531.out)|exact HB.out)) hb);have n5_:=Zz.mk (hbox);have n6_:=Zz.mk ((by rw [hg];exact (qZ (by repeat (first|(with_reducible first|exact HB.out|apply qA|apply qN|apply q1_|refine qS ?_ GE531.out)|exact HB.out))):w.heap.size≤gb553));have n7_:=Zz.mk ((by rw [hg];exact (qZ (by repeat (first|(with_reducible first|exact HB.out|apply qA|apply qN|apply q1_|refine qS ?_ GE531.out)|exact HB.out))):w.heap.size≤gb553));have n8_:=Zz.mk ((by rw [hg];exact Nat.ne_of_lt (blk_lt (g:=gb531) (o:=.cells #[.slice none 0 0] 24 (0,0)) (by (with_reducible repeat first|apply bN|apply bD|apply bA);exact BK531.out)):gb531 ≠ gb553));have n9_:=Zz.mk ((by rw [hg];exact Nat.ne_of_gt (blk_lt (g:=gb531) (o:=.cells #[.slice none 0 0] 24 (0,0)) (by (with_reducible repeat first|apply bN|apply bD|apply bA);exact BK531.out)):gb553 ≠ gb531));clear HO_4;clear HO_6;clear HO551;clear BK531;clear HB;have HO_4:=n0_;have HO_6:=n1_;have HO551:=n2_;have BK531:=n3_;have HB:=n4_;have BK553:=n5_;have GW553:=n6_;have GE553:=n7_;have NB531_553:=n8_;have NB553_531:=n9_;clear n0_ n1_ n2_ n3_ n4_ n5_ n6_ n7_ n8_ n9_;clear hb hbox hg;obtain ⟨Ao107,co107,eo107⟩:=Kd.R_slice HO551.out;subst eo107;have hnb108:=NB553_531.out;have hnc108:=NB531_553.out;have hcz109_0:w106.cell? ⟨gb553,0,none⟩=some (.slice none 0 0):=(bC BK553.out 0).trans rfl;have hfz109_0:=bF BK553.out 0)|(go_at_call 19;(with_reducible refine (impl_Trie_text.calls k1 _ _ t549 0 t554 _ ?side1 ?side2 A102.out).mono ?_);(case side1=>refine (Kd.R_reads' (e:=62) (base:=w.heap.size) (ok:=fun k_=>True) (n:=t549.length) (c:=co107) ?_).2.2;exact (by (with_reducible repeat first|apply Kd.R_alloc|apply Kd.R_drewN|apply Kd.R_drew);exact (Kd.R_mono (R_same_ (Kd.R_far (p:=⟨gb553,0,none⟩) (Kd.R_types HO551.out BK553.out (by decide)) (fun _ hk=>hk.2) (.slice Ao107 t549.length co107)) rfl) (fun _ h_=>h_.1))));(case side2=>exact (Kd.R_reads' HO551.out).2.1);rintro e w110 ⟨rfl,hb⟩;have n0_:=Zz.mk (Kd.R_below (by (with_reducible repeat first|apply Kd.R_alloc|apply Kd.R_drewN|apply Kd.R_drew);exact (Kd.R_mono (R_same_ (Kd.R_far (p:=⟨gb553,0,none⟩) (Kd.R_types HO_4.out BK553.out (by decide)) (fun _ hk=>hk.2) (.slice Ao107 t549.length co107)) rfl) (fun _ h_=>h_.1))) hb);have n1_:=Zz.mk (Kd.R_below (by (with_reducible repeat first|apply Kd.R_alloc|apply Kd.R_drewN|apply Kd.R_drew);exact (Kd.R_mono (R_same_ (Kd.R_far (p:=⟨gb553,0,none⟩) (Kd.R_types HO_6.out BK553.out (by decide)) (fun _ hk=>hk.2) (.slice Ao107 t549.length co107)) rfl) (fun _ h_=>h_.1))) hb);have n2_:=Zz.mk (Kd.R_below (by (with_reducible repeat first|apply Kd.R_alloc|apply Kd.R_drewN|apply Kd.R_drew);exact (Kd.R_mono (R_same_ (Kd.R_far (p:=⟨gb553,0,none⟩) (Kd.R_types HO551.out BK553.out (by decide)) (fun _ hk=>hk.2) (.slice Ao107 t549.length co107)) rfl) (fun _ h_=>h_.1))) hb);have n3_:=Zz.mk (bB (g:=gb531) (o:=.cells #[.slice none 0 0] 24 (0,0)) (by (with_reducible repeat first|apply bN|apply bD|apply bA);refine blk_far ?_ NB531_553.out _;(with_reducible repeat first|apply bN|apply bD|apply bA);exact BK531.out) hb);have n4_:=Zz.mk (bB (g:=gb553) (o:=.cells #[.slice Ao107 t549.length co107] 24 (0,0)) (by (with_reducible repeat first|apply bN|apply bD|apply bA);refine blk_put (cs:=#[.slice none 0 0]) ?_ 0 _ rfl;(with_reducible repeat first|apply bN|apply bD|apply bA);exact BK553.out) hb);have n5_:=Zz.mk (qP (by repeat (first|(with_reducible first|exact HB.out|apply qA|apply qN|apply q1_|refine qS ?_ GE531.out|refine qS ?_ GE553.out)|exact HB.out)) hb);clear HO_4;clear HO_6;clear HO551;clear BK531;clear BK553;clear HB;have HO_4:=n0_;have HO_6:=n1_;have HO551:=n2_;have BK531:=n3_;have BK553:=n4_;have HB:=n5_;clear n0_ n1_ n2_ n3_ n4_ n5_;(try clear hb);(try clear hb2);(try clear hk);(try clear hi);have hcz111_0:w110.cell? ⟨gb553,0,none⟩=some (.slice Ao107 t549.length co107):=(bC BK553.out 0).trans rfl;have hfz111_0:=bF BK553.out 0;have hcz112_0:w110.cell? ⟨gb531,0,none⟩=some (.slice none 0 0):=(bC BK531.out 0).trans rfl;have hfz112_0:=bF BK531.out 0)))
            refine bodyPost_ret (results_ct rfl _ _ gb531 24 #[.slice Ao107 t549.length co107] (0,0) _ rfl (by (with_reducible repeat first|apply bN|apply bD|apply bA);refine blk_put (cs:=#[.slice none 0 0]) ?_ 0 _ rfl;(with_reducible repeat first|apply bN|apply bD|apply bA);exact BK531.out) Try.underlying24 rfl (by kernel_rfl)) rfl ?_
            exact ⟨_,by first|rfl|(simp [errW_none,errW_some] <;> rfl)|(simp [*,errW_none,errW_some] <;> rfl),by (with_reducible repeat first|apply Kd.R_alloc|apply Kd.R_drewN|apply Kd.R_drew);exact Kd.R_mono (R_same_ (Kd.R_far (p:=⟨gb531,0,none⟩) (Kd.R_types HO551.out BK531.out (by decide)) (fun _ hk=>hk.2) (.slice Ao107 t549.length co107)) rfl) (fun _ hk=>trivial),by repeat (first|(with_reducible first|exact HB.out|apply qA|apply qN|apply q1_|refine qS ?_ GE531.out|refine qS ?_ GE553.out)|exact HB.out)⟩
          · rw [if_neg c103] at H
            have c103b0:(t554.toList == a0.toList)=false:=beq_eq_false_iff_ne.mpr c103
            have c103b1:(t554.toList != a0.toList)=true:=bne_iff_ne.mpr c103
            simp only [Option.some.injEq,Prod.mk.injEq] at H
            obtain ⟨rfl,rfl⟩:=H
            obtain ⟨Ao113,co113,eo113⟩:=Kd.R_slice HO_6.out
            subst eo113
            go_wp2_with (first|(go_at_call 18;(with_reducible refine (impl_ofWords.calls _ _ x6_1 t549 true _ ?side1 ?side2 A100.out).mono ?_);(case side1=>repeat (first|exact (Kd.R_reads' HO_6.out).2.2|(with_reducible refine Kd.C_alloc ?_ _)|(with_reducible refine Kd.C_drewN ?_ _)|(with_reducible refine Kd.C_drew ?_)));(case side2=>exact (Kd.R_reads' HO_6.out).2.1);rintro e w114 ⟨v550,rfl,ho0,hb⟩;have n0_:=Zz.mk (Kd.R_below (by (with_reducible repeat first|apply Kd.R_alloc|apply Kd.R_drewN|apply Kd.R_drew);exact HO_4.out) hb);have n1_:=Zz.mk (Kd.R_below (by (with_reducible repeat first|apply Kd.R_alloc|apply Kd.R_drewN|apply Kd.R_drew);exact HO_6.out) hb);have n2_:=Zz.mk (Kd.R_lower ho0 (qZ (by repeat (first|(with_reducible first|exact HB.out|apply qA|apply qN|apply q1_|refine qS ?_ GE531.out)|exact HB.out))));have n3_:=Zz.mk (bB (g:=gb531) (o:=.cells #[.slice none 0 0] 24 (0,0)) (by (with_reducible repeat first|apply bN|apply bD|apply bA);exact BK531.out) hb);have n4_:=Zz.mk (qP (by repeat (first|(with_reducible first|exact HB.out|apply qA|apply qN|apply q1_|refine qS ?_ GE531.out)|exact HB.out)) hb);clear HO_4;clear HO_6;clear BK531;clear HB;have HO_4:=n0_;have HO_6:=n1_;have HO551:=n2_;have BK531:=n3_;have HB:=n4_;clear n0_ n1_ n2_ n3_ n4_;(try clear hb);(try clear hb2);(try clear hk);(try clear hi);(try clear ho0))|((with_reducible refine gate_dst (N:=9) rfl ?_);(try (refine gate_guard (by rfl) ?_;dsimp only));refine box_event ?hg (N:=9) ?hd (cs:=#[.slice none 0 0]) (t:=24) ?hr ?_;(case hd=>rfl);(case hg=>rfl);(case hr=>first|(go_simp;done)|(go_simp;rfl));intro gb553 hg w115 hbox hb;have n0_:=Zz.mk (Kd.R_below (by (with_reducible repeat first|apply Kd.R_alloc|apply Kd.R_drewN|apply Kd.R_drew);exact HO_4.out) hb);have n1_:=Zz.mk (Kd.R_below (by (with_reducible repeat first|apply Kd.R_alloc|apply Kd.R_drewN|apply Kd.R_drew);exact HO_6.out) hb);have n2_:=Zz.mk (Kd.R_below (by (with_reducible repeat first|apply Kd.R_alloc|apply Kd.R_drewN|apply Kd.R_drew);exact HO551.out) hb);have n3_:=Zz.mk (bB (g:=gb531) (o:=.cells #[.slice none 0 0] 24 (0,0)) (by (with_reducible repeat first|apply bN|apply bD|apply bA);exact BK531.out) hb);have n4_:=Zz.mk (qP (by repeat (first|(with_reducible first|exact HB.out|apply qA|apply qN|apply q1_|refine qS ?_ GE531.out)|exact HB.out)) hb);have n5_:=Zz.mk (hbox);have n6_:=Zz.mk ((by rw [hg];exact (qZ (by repeat (first|(with_reducible first|exact HB.out|apply qA|apply qN|apply q1_|refine qS ?_ GE531.out)|exact HB.out))):w.heap.size≤gb553));have n7_:=Zz.mk ((by rw [hg];exact (qZ (by repeat (first|(with_reducible first|exact HB.out|apply qA|apply qN|apply q1_|refine qS ?_ GE531.out)|exact HB.out))):w.heap.size≤gb553));have n8_:=Zz.mk ((by rw [hg];exact Nat.ne_of_lt (blk_lt (g:=gb531) (o:=.cells #[.slice none 0 0] 24 (0,0)) (by (with_reducible repeat first|apply bN|apply bD|apply bA);exact BK531.out)):gb531 ≠ gb553));have n9_:=Zz.mk ((by rw [hg];exact Nat.ne_of_gt (blk_lt (g:=gb531) (o:=.cells #[.slice none 0 0] 24 (0,0)) (by (with_reducible repeat first|apply bN|apply bD|apply bA);exact BK531.out)):gb553 ≠ gb531));clear HO_4;clear HO_6;clear HO551;clear BK531;clear HB;have HO_4:=n0_;have HO_6:=n1_;have HO551:=n2_;have BK531:=n3_;have HB:=n4_;have BK553:=n5_;have GW553:=n6_;have GE553:=n7_;have NB531_553:=n8_;have NB553_531:=n9_;clear n0_ n1_ n2_ n3_ n4_ n5_ n6_ n7_ n8_ n9_;clear hb hbox hg;obtain ⟨Ao116,co116,eo116⟩:=Kd.R_slice HO551.out;subst eo116;have hnb117:=NB553_531.out;have hnc117:=NB531_553.out;have hcz118_0:w115.cell? ⟨gb553,0,none⟩=some (.slice none 0 0):=(bC BK553.out 0).trans rfl;have hfz118_0:=bF BK553.out 0)|(go_at_call 19;(with_reducible refine (impl_Trie_text.calls k1 _ _ t549 0 t554 _ ?side1 ?side2 A102.out).mono ?_);(case side1=>refine (Kd.R_reads' (e:=62) (base:=w.heap.size) (ok:=fun k_=>True) (n:=t549.length) (c:=co116) ?_).2.2;exact (by (with_reducible repeat first|apply Kd.R_alloc|apply Kd.R_drewN|apply Kd.R_drew);exact (Kd.R_mono (R_same_ (Kd.R_far (p:=⟨gb553,0,none⟩) (Kd.R_types HO551.out BK553.out (by decide)) (fun _ hk=>hk.2) (.slice Ao116 t549.length co116)) rfl) (fun _ h_=>h_.1))));(case side2=>exact (Kd.R_reads' HO551.out).2.1);rintro e w119 ⟨rfl,hb⟩;have n0_:=Zz.mk (Kd.R_below (by (with_reducible repeat first|apply Kd.R_alloc|apply Kd.R_drewN|apply Kd.R_drew);exact (Kd.R_mono (R_same_ (Kd.R_far (p:=⟨gb553,0,none⟩) (Kd.R_types HO_4.out BK553.out (by decide)) (fun _ hk=>hk.2) (.slice Ao116 t549.length co116)) rfl) (fun _ h_=>h_.1))) hb);have n1_:=Zz.mk (Kd.R_below (by (with_reducible repeat first|apply Kd.R_alloc|apply Kd.R_drewN|apply Kd.R_drew);exact (Kd.R_mono (R_same_ (Kd.R_far (p:=⟨gb553,0,none⟩) (Kd.R_types HO_6.out BK553.out (by decide)) (fun _ hk=>hk.2) (.slice Ao116 t549.length co116)) rfl) (fun _ h_=>h_.1))) hb);have n2_:=Zz.mk (Kd.R_below (by (with_reducible repeat first|apply Kd.R_alloc|apply Kd.R_drewN|apply Kd.R_drew);exact (Kd.R_mono (R_same_ (Kd.R_far (p:=⟨gb553,0,none⟩) (Kd.R_types HO551.out BK553.out (by decide)) (fun _ hk=>hk.2) (.slice Ao116 t549.length co116)) rfl) (fun _ h_=>h_.1))) hb);have n3_:=Zz.mk (bB (g:=gb531) (o:=.cells #[.slice none 0 0] 24 (0,0)) (by (with_reducible repeat first|apply bN|apply bD|apply bA);refine blk_far ?_ NB531_553.out _;(with_reducible repeat first|apply bN|apply bD|apply bA);exact BK531.out) hb);have n4_:=Zz.mk (bB (g:=gb553) (o:=.cells #[.slice Ao116 t549.length co116] 24 (0,0)) (by (with_reducible repeat first|apply bN|apply bD|apply bA);refine blk_put (cs:=#[.slice none 0 0]) ?_ 0 _ rfl;(with_reducible repeat first|apply bN|apply bD|apply bA);exact BK553.out) hb);have n5_:=Zz.mk (qP (by repeat (first|(with_reducible first|exact HB.out|apply qA|apply qN|apply q1_|refine qS ?_ GE531.out|refine qS ?_ GE553.out)|exact HB.out)) hb);clear HO_4;clear HO_6;clear HO551;clear BK531;clear BK553;clear HB;have HO_4:=n0_;have HO_6:=n1_;have HO551:=n2_;have BK531:=n3_;have BK553:=n4_;have HB:=n5_;clear n0_ n1_ n2_ n3_ n4_ n5_;(try clear hb);(try clear hb2);(try clear hk);(try clear hi);have hcz120_0:w119.cell? ⟨gb531,0,none⟩=some (.slice none 0 0):=(bC BK531.out 0).trans rfl;have hfz120_0:=bF BK531.out 0))
            repeat (go_quiet (first|(go_at_call 18;(with_reducible refine (impl_ofWords.calls _ _ x6_1 t549 true _ ?side1 ?side2 A100.out).mono ?_);(case side1=>repeat (first|exact (Kd.R_reads' HO_6.out).2.2|(with_reducible refine Kd.C_alloc ?_ _)|(with_reducible refine Kd.C_drewN ?_ _)|(with_reducible refine Kd.C_drew ?_)));(case side2=>exact (Kd.R_reads' HO_6.out).2.1);rintro e w114 ⟨v550,rfl,ho0,hb⟩;have n0_:=Zz.mk (Kd.R_below (by (with_reducible repeat first|apply Kd.R_alloc|apply Kd.R_drewN|apply Kd.R_drew);exact HO_4.out) hb);have n1_:=Zz.mk (Kd.R_below (by (with_reducible repeat first|apply Kd.R_alloc|apply Kd.R_drewN|apply Kd.R_drew);exact HO_6.out) hb);have n2_:=Zz.mk (Kd.R_lower ho0 (qZ (by repeat (first|(with_reducible first|exact HB.out|apply qA|apply qN|apply q1_|refine qS ?_ GE531.out)|exact HB.out))));have n3_:=Zz.mk (bB (g:=gb531) (o:=.cells #[.slice none 0 0] 24 (0,0)) (by (with_reducible repeat first|apply bN|apply bD|apply bA);exact BK531.out) hb);have n4_:=Zz.mk (qP (by repeat (first|(with_reducible first|exact HB.out|apply qA|apply qN|apply q1_|refine qS ?_ GE531.out)|exact HB.out)) hb);clear HO_4;clear HO_6;clear BK531;clear HB;have HO_4:=n0_;have HO_6:=n1_;have HO551:=n2_;have BK531:=n3_;have HB:=n4_;clear n0_ n1_ n2_ n3_ n4_;(try clear hb);(try clear hb2);(try clear hk);(try clear hi);(try clear ho0))|((with_reducible refine gate_dst (N:=9) rfl ?_);(try (refine gate_guard (by rfl) ?_;dsimp only));refine box_event ?hg (N:=9) ?hd (cs:=#[.slice none 0 0]) (t:=24) ?hr ?_;(case hd=>rfl);(case hg=>rfl);(case hr=>first|(go_simp;done)|(go_simp;rfl));intro gb553 hg w115 hbox hb;have n0_:=Zz.mk (Kd.R_below (by (with_reducible repeat first|apply Kd.R_alloc|apply Kd.R_drewN|apply Kd.R_drew);exact HO_4.out) hb);have n1_:=Zz.mk (Kd.R_below (by (with_reducible repeat first|apply Kd.R_alloc|apply Kd.R_drewN|apply Kd.R_drew);exact HO_6.out) hb);have n2_:=Zz.mk (Kd.R_below (by (with_reducible repeat first|apply Kd.R_alloc|apply Kd.R_drewN|apply Kd.R_drew);exact HO551.out) hb);have n3_:=Zz.mk (bB (g:=gb531) (o:=.cells #[.slice none 0 0] 24 (0,0)) (by (with_reducible repeat first|apply bN|apply bD|apply bA);exact BK531.out) hb);have n4_:=Zz.mk (qP (by repeat (first|(with_reducible first|exact HB.out|apply qA|apply qN|apply q1_|refine qS ?_ GE531.out)|exact HB.out)) hb);have n5_:=Zz.mk (hbox);have n6_:=Zz.mk ((by rw [hg];exact (qZ (by repeat (first|(with_reducible first|exact HB.out|apply qA|apply qN|apply q1_|refine qS ?_ GE531.out)|exact HB.out))):w.heap.size≤gb553));have n7_:=Zz.mk ((by rw [hg];exact (qZ (by repeat (first|(with_reducible first|exact HB.out|apply qA|apply qN|apply q1_|refine qS ?_ GE531.out)|exact HB.out))):w.heap.size≤gb553));have n8_:=Zz.mk ((by rw [hg];exact Nat.ne_of_lt (blk_lt (g:=gb531) (o:=.cells #[.slice none 0 0] 24 (0,0)) (by (with_reducible repeat first|apply bN|apply bD|apply bA);exact BK531.out)):gb531 ≠ gb553));have n9_:=Zz.mk ((by rw [hg];exact Nat.ne_of_gt (blk_lt (g:=gb531) (o:=.cells #[.slice none 0 0] 24 (0,0)) (by (with_reducible repeat first|apply bN|apply bD|apply bA);exact BK531.out)):gb553 ≠ gb531));clear HO_4;clear HO_6;clear HO551;clear BK531;clear HB;have HO_4:=n0_;have HO_6:=n1_;have HO551:=n2_;have BK531:=n3_;have HB:=n4_;have BK553:=n5_;have GW553:=n6_;have GE553:=n7_;have NB531_553:=n8_;have NB553_531:=n9_;clear n0_ n1_ n2_ n3_ n4_ n5_ n6_ n7_ n8_ n9_;clear hb hbox hg;obtain ⟨Ao116,co116,eo116⟩:=Kd.R_slice HO551.out;subst eo116;have hnb117:=NB553_531.out;have hnc117:=NB531_553.out;have hcz118_0:w115.cell? ⟨gb553,0,none⟩=some (.slice none 0 0):=(bC BK553.out 0).trans rfl;have hfz118_0:=bF BK553.out 0)|(go_at_call 19;(with_reducible refine (impl_Trie_text.calls k1 _ _ t549 0 t554 _ ?side1 ?side2 A102.out).mono ?_);(case side1=>refine (Kd.R_reads' (e:=62) (base:=w.heap.size) (ok:=fun k_=>True) (n:=t549.length) (c:=co116) ?_).2.2;exact (by (with_reducible repeat first|apply Kd.R_alloc|apply Kd.R_drewN|apply Kd.R_drew);exact (Kd.R_mono (R_same_ (Kd.R_far (p:=⟨gb553,0,none⟩) (Kd.R_types HO551.out BK553.out (by decide)) (fun _ hk=>hk.2) (.slice Ao116 t549.length co116)) rfl) (fun _ h_=>h_.1))));(case side2=>exact (Kd.R_reads' HO551.out).2.1);rintro e w119 ⟨rfl,hb⟩;have n0_:=Zz.mk (Kd.R_below (by (with_reducible repeat first|apply Kd.R_alloc|apply Kd.R_drewN|apply Kd.R_drew);exact (Kd.R_mono (R_same_ (Kd.R_far (p:=⟨gb553,0,none⟩) (Kd.R_types HO_4.out BK553.out (by decide)) (fun _ hk=>hk.2) (.slice Ao116 t549.length co116)) rfl) (fun _ h_=>h_.1))) hb);have n1_:=Zz.mk (Kd.R_below (by (with_reducible repeat first|apply Kd.R_alloc|apply Kd.R_drewN|apply Kd.R_drew);exact (Kd.R_mono (R_same_ (Kd.R_far (p:=⟨gb553,0,none⟩) (Kd.R_types HO_6.out BK553.out (by decide)) (fun _ hk=>hk.2) (.slice Ao116 t549.length co116)) rfl) (fun _ h_=>h_.1))) hb);have n2_:=Zz.mk (Kd.R_below (by (with_reducible repeat first|apply Kd.R_alloc|apply Kd.R_drewN|apply Kd.R_drew);exact (Kd.R_mono (R_same_ (Kd.R_far (p:=⟨gb553,0,none⟩) (Kd.R_types HO551.out BK553.out (by decide)) (fun _ hk=>hk.2) (.slice Ao116 t549.length co116)) rfl) (fun _ h_=>h_.1))) hb);have n3_:=Zz.mk (bB (g:=gb531) (o:=.cells #[.slice none 0 0] 24 (0,0)) (by (with_reducible repeat first|apply bN|apply bD|apply bA);refine blk_far ?_ NB531_553.out _;(with_reducible repeat first|apply bN|apply bD|apply bA);exact BK531.out) hb);have n4_:=Zz.mk (bB (g:=gb553) (o:=.cells #[.slice Ao116 t549.length co116] 24 (0,0)) (by (with_reducible repeat first|apply bN|apply bD|apply bA);refine blk_put (cs:=#[.slice none 0 0]) ?_ 0 _ rfl;(with_reducible repeat first|apply bN|apply bD|apply bA);exact BK553.out) hb);have n5_:=Zz.mk (qP (by repeat (first|(with_reducible first|exact HB.out|apply qA|apply qN|apply q1_|refine qS ?_ GE531.out|refine qS ?_ GE553.out)|exact HB.out)) hb);clear HO_4;clear HO_6;clear HO551;clear BK531;clear BK553;clear HB;have HO_4:=n0_;have HO_6:=n1_;have HO551:=n2_;have BK531:=n3_;have BK553:=n4_;have HB:=n5_;clear n0_ n1_ n2_ n3_ n4_ n5_;(try clear hb);(try clear hb2);(try clear hk);(try clear hi);have hcz120_0:w119.cell? ⟨gb531,0,none⟩=some (.slice none 0 0):=(bC BK531.out 0).trans rfl;have hfz120_0:=bF BK531.out 0));try go_wp2_with (first|(go_at_call 18;(with_reducible refine (impl_ofWords.calls _ _ x6_1 t549 true _ ?side1 ?side2 A100.out).mono ?_);(case side1=>repeat (first|exact (Kd.R_reads' HO_6.out).2.2|(with_reducible refine Kd.C_alloc ?_ _)|(with_reducible refine Kd.C_drewN ?_ _)|(with_reducible refine Kd.C_drew ?_)));(case side2=>exact (Kd.R_reads' HO_6.out).2.1);rintro e w114 ⟨v550,rfl,ho0,hb⟩;have n0_:=Zz.mk (Kd.R_below (by (with_reducible repeat first|apply Kd.R_alloc|apply Kd.R_drewN|apply Kd.R_drew);exact HO_4.out) hb);have n1_:=Zz.mk (Kd.R_below (by (with_reducible repeat first|apply Kd.R_alloc|apply Kd.R_drewN|apply Kd.R_drew);exact HO_6.out) hb);have n2_:=Zz.mk (Kd.R_lower ho0 (qZ (by repeat (first|(with_reducible first|exact HB.out|apply qA|apply qN|apply q1_|refine qS ?_ GE531.out)|exact HB.out))));have n3_:=Zz.mk (bB (g:=gb531) (o:=.cells #[.slice none 0 0] 24 (0,0)) (by (with_reducible repeat first|apply bN|apply bD|apply bA);exact BK531.out) hb);have n4_:=Zz.mk (qP (by repeat (first|(with_reducible first|exact HB.out|apply qA|apply qN|apply q1_|refine qS ?_ GE531.out)|exact HB.out)) hb);clear HO_4;clear HO_6;clear BK531;clear HB;have HO_4:=n0_;have HO_6:=n1_;have HO551:=n2_;have BK531:=n3_;have HB:=n4_;clear n0_ n1_ n2_ n3_ n4_;(try clear hb);(try clear hb2);(try clear hk);(try clear hi);(try clear ho0))|((with_reducible refine gate_dst (N:=9) rfl ?_);(try (refine gate_guard (by rfl) ?_;dsimp only));refine box_event ?hg (N:=9) ?hd (cs:=#[.slice none 0 0]) (t:=24) ?hr ?_;(case hd=>rfl);(case hg=>rfl);(case hr=>first|(go_simp;done)|(go_simp;rfl));intro gb553 hg w115 hbox hb;have n0_:=Zz.mk (Kd.R_below (by (with_reducible repeat first|apply Kd.R_alloc|apply Kd.R_drewN|apply Kd.R_drew);exact HO_4.out) hb);have n1_:=Zz.mk (Kd.R_below (by (with_reducible repeat first|apply Kd.R_alloc|apply Kd.R_drewN|apply Kd.R_drew);exact HO_6.out) hb);have n2_:=Zz.mk (Kd.R_below (by (with_reducible repeat first|apply Kd.R_alloc|apply Kd.R_drewN|apply Kd.R_drew);exact HO551.out) hb);have n3_:=Zz.mk (bB (g:=gb531) (o:=.cells #[.slice none 0 0] 24 (0,0)) (by (with_reducible repeat first|apply bN|apply bD|apply bA);exact BK531.out) hb);have n4_:=Zz.mk (qP (by repeat (first|(with_reducible first|exact HB.out|apply qA|apply qN|apply q1_|refine qS ?_ GE531.out)|exact HB.out)) hb);have n5_:=Zz.mk (hbox);have n6_:=Zz.mk ((by rw [hg];exact (qZ (by repeat (first|(with_reducible first|exact HB.out|apply qA|apply qN|apply q1_|refine qS ?_ GE531.out)|exact HB.out))):w.heap.size≤gb553));have n7_:=Zz.mk ((by rw [hg];exact (qZ (by repeat (first|(with_reducible first|exact HB.out|apply qA|apply qN|apply q1_|refine qS ?_ GE531.out)|exact HB.out))):w.heap.size≤gb553));have n8_:=Zz.mk ((by rw [hg];exact Nat.ne_of_lt (blk_lt (g:=gb531) (o:=.cells #[.slice none 0 0] 24 (0,0)) (by (with_reducible repeat first|apply bN|apply bD|apply bA);exact BK531.out)):gb531 ≠ gb553));have n9_:=Zz.mk ((by rw [hg];exact Nat.ne_of_gt (blk_lt (g:=gb531) (o:=.cells #[.slice none 0 0] 24 (0,0)) (by (with_reducible repeat first|apply bN|apply bD|apply bA);exact BK531.out)):gb553 ≠ gb531));clear HO_4;clear HO_6;clear HO551;clear BK531;clear HB;have HO_4:=n0_;have HO_6:=n1_;have HO551:=n2_;have BK531:=n3_;have HB:=n4_;have BK553:=n5_;have GW553:=n6_;have GE553:=n7_;have NB531_553:=n8_;have NB553_531:=n9_;clear n0_ n1_ n2_ n3_ n4_ n5_ n6_ n7_ n8_ n9_;clear hb hbox hg;obtain ⟨Ao116,co116,eo116⟩:=Kd.R_slice HO551.out;subst eo116;have hnb117:=NB553_531.out;have hnc117:=NB531_553.out;have hcz118_0:w115.cell? ⟨gb553,0,none⟩=some (.slice none 0 0):=(bC BK553.out 0).trans rfl;have hfz118_0:=bF BK553.out 0)|(go_at_call 19;(with_reducible refine (impl_Trie_text.calls k1 _ _ t549 0 t554 _ ?side1 ?side2 A102.out).mono ?_);(case side1=>refine (Kd.R_reads' (e:=62) (base:=w.heap.size) (ok:=fun k_=>True) (n:=t549.length) (c:=co116) ?_).2.2;exact (by (with_reducible repeat first|apply Kd.R_alloc|apply Kd.R_drewN|apply Kd.R_drew);exact (Kd.R_mono (R_same_ (Kd.R_far (p:=⟨gb553,0,none⟩) (Kd.R_types HO551.out BK553.out (by decide)) (fun _ hk=>hk.2) (.slice Ao116 t549.length co116)) rfl) (fun _ h_=>h_.1))));(case side2=>exact (Kd.R_reads' HO551.out).2.1);rintro e w119 ⟨rfl,hb⟩;have n0_:=Zz.mk (Kd.R_below (by (with_reducible repeat first|apply Kd.R_alloc|apply Kd.R_drewN|apply Kd.R_drew);exact (Kd.R_mono (R_same_ (Kd.R_far (p:=⟨gb553,0,none⟩) (Kd.R_types HO_4.out BK553.out (by decide)) (fun _ hk=>hk.2) (.slice Ao116 t549.length co116)) rfl) (fun _ h_=>h_.1))) hb);have n1_:=Zz.mk (Kd.R_below (by (with_reducible repeat first|apply Kd.R_alloc|apply Kd.R_drewN|apply Kd.R_drew);exact (Kd.R_mono (R_same_ (Kd.R_far (p:=⟨gb553,0,none⟩) (Kd.R_types HO_6.out BK553.out (by decide)) (fun _ hk=>hk.2) (.slice Ao116 t549.length co116)) rfl) (fun _ h_=>h_.1))) hb);have n2_:=Zz.mk (Kd.R_below (by (with_reducible repeat first|apply Kd.R_alloc|apply Kd.R_drewN|apply Kd.R_drew);exact (Kd.R_mono (R_same_ (Kd.R_far (p:=⟨gb553,0,none⟩) (Kd.R_types HO551.out BK553.out (by decide)) (fun _ hk=>hk.2) (.slice Ao116 t549.length co116)) rfl) (fun _ h_=>h_.1))) hb);have n3_:=Zz.mk (bB (g:=gb531) (o:=.cells #[.slice none 0 0] 24 (0,0)) (by (with_reducible repeat first|apply bN|apply bD|apply bA);refine blk_far ?_ NB531_553.out _;(with_reducible repeat first|apply bN|apply bD|apply bA);exact BK531.out) hb);have n4_:=Zz.mk (bB (g:=gb553) (o:=.cells #[.slice Ao116 t549.length co116] 24 (0,0)) (by (with_reducible repeat first|apply bN|apply bD|apply bA);refine blk_put (cs:=#[.slice none 0 0]) ?_ 0 _ rfl;(with_reducible repeat first|apply bN|apply bD|apply bA);exact BK553.out) hb);have n5_:=Zz.mk (qP (by repeat (first|(with_reducible first|exact HB.out|apply qA|apply qN|apply q1_|refine qS ?_ GE531.out|refine qS ?_ GE553.out)|exact HB.out)) hb);clear HO_4;clear HO_6;clear HO551;clear BK531;clear BK553;clear HB;have HO_4:=n0_;have HO_6:=n1_;have HO551:=n2_;have BK531:=n3_;have BK553:=n4_;have HB:=n5_;clear n0_ n1_ n2_ n3_ n4_ n5_;(try clear hb);(try clear hb2);(try clear hk);(try clear hi);have hcz120_0:w119.cell? ⟨gb531,0,none⟩=some (.slice none 0 0):=(bC BK531.out 0).trans rfl;have hfz120_0:=bF BK531.out 0)))
            refine bodyPost_ret (results_ct rfl _ _ gb531 24 #[.slice none 0 0] (0,0) _ rfl (by (with_reducible repeat first|apply bN|apply bD|apply bA);refine blk_put (cs:=#[.slice none 0 0]) ?_ 0 _ rfl;(with_reducible repeat first|apply bN|apply bD|apply bA);exact BK531.out) Try.underlying24 rfl (by kernel_rfl)) rfl ?_
            exact ⟨_,by first|rfl|(simp [errW_none,errW_some] <;> rfl)|(simp [*,errW_none,errW_some] <;> rfl),by first|exact Kd.R_nil _ _ _ _ _|exact Kd.N_nil _ _ _ _ _|exact Kd.V_nil _ _ _ _ _|exact Kd.Q_nil _ _ _ _ _|exact Kd.S_nil _ _ _ _ _,by repeat (first|(with_reducible first|exact HB.out|apply qA|apply qN|apply q1_|refine qS ?_ GE531.out|refine qS ?_ GE553.out)|exact HB.out)⟩
        · replace c101:=Bool.eq_false_iff.mpr c101
          subst c101
          have H1:(some (([]:List (S62)),false))=some (r1,r2):=by rw [if_neg (show ¬ (false=true) by decide)] at H;exact H
          clear H
          have H:=H1
          clear H1
          simp only [Option.some.injEq,Prod.mk.injEq] at H
          obtain ⟨rfl,rfl⟩:=H
          obtain ⟨Ao121,co121,eo121⟩:=Kd.R_slice HO_6.out
          subst eo121
          go_wp2_with (first|(go_at_call 18;(with_reducible refine (impl_ofWords.calls _ _ x6_1 t549 false _ ?side1 ?side2 A100.out).mono ?_);(case side1=>repeat (first|exact (Kd.R_reads' HO_6.out).2.2|(with_reducible refine Kd.C_alloc ?_ _)|(with_reducible refine Kd.C_drewN ?_ _)|(with_reducible refine Kd.C_drew ?_)));(case side2=>exact (Kd.R_reads' HO_6.out).2.1);rintro e w122 ⟨v550,rfl,ho0,hb⟩;have n0_:=Zz.mk (Kd.R_below (by (with_reducible repeat first|apply Kd.R_alloc|apply Kd.R_drewN|apply Kd.R_drew);exact HO_4.out) hb);have n1_:=Zz.mk (Kd.R_below (by (with_reducible repeat first|apply Kd.R_alloc|apply Kd.R_drewN|apply Kd.R_drew);exact HO_6.out) hb);have n2_:=Zz.mk (Kd.R_lower ho0 (qZ (by repeat (first|(with_reducible first|exact HB.out|apply qA|apply qN|apply q1_|refine qS ?_ GE531.out)|exact HB.out))));have n3_:=Zz.mk (bB (g:=gb531) (o:=.cells #[.slice none 0 0] 24 (0,0)) (by (with_reducible repeat first|apply bN|apply bD|apply bA);exact BK531.out) hb);have n4_:=Zz.mk (qP (by repeat (first|(with_reducible first|exact HB.out|apply qA|apply qN|apply q1_|refine qS ?_ GE531.out)|exact HB.out)) hb);clear HO_4;clear HO_6;clear BK531;clear HB;have HO_4:=n0_;have HO_6:=n1_;have HO551:=n2_;have BK531:=n3_;have HB:=n4_;clear n0_ n1_ n2_ n3_ n4_;(try clear hb);(try clear hb2);(try clear hk);(try clear hi);(try clear ho0))|((with_reducible refine gate_dst (N:=9) rfl ?_);(try (refine gate_guard (by rfl) ?_;dsimp only));refine box_event ?hg (N:=9) ?hd (cs:=#[.slice none 0 0]) (t:=24) ?hr ?_;(case hd=>rfl);(case hg=>rfl);(case hr=>first|(go_simp;done)|(go_simp;rfl));intro gb553 hg w123 hbox hb;have n0_:=Zz.mk (Kd.R_below (by (with_reducible repeat first|apply Kd.R_alloc|apply Kd.R_drewN|apply Kd.R_drew);exact HO_4.out) hb);have n1_:=Zz.mk (Kd.R_below (by (with_reducible repeat first|apply Kd.R_alloc|apply Kd.R_drewN|apply Kd.R_drew);exact HO_6.out) hb);have n2_:=Zz.mk (Kd.R_below (by (with_reducible repeat first|apply Kd.R_alloc|apply Kd.R_drewN|apply Kd.R_drew);exact HO551.out) hb);have n3_:=Zz.mk (bB (g:=gb531) (o:=.cells #[.slice none 0 0] 24 (0,0)) (by (with_reducible repeat first|apply bN|apply bD|apply bA);exact BK531.out) hb);have n4_:=Zz.mk (qP (by repeat (first|(with_reducible first|exact HB.out|apply qA|apply qN|apply q1_|refine qS ?_ GE531.out)|exact HB.out)) hb);have n5_:=Zz.mk (hbox);have n6_:=Zz.mk ((by rw [hg];exact (qZ (by repeat (first|(with_reducible first|exact HB.out|apply qA|apply qN|apply q1_|refine qS ?_ GE531.out)|exact HB.out))):w.heap.size≤gb553));have n7_:=Zz.mk ((by rw [hg];exact (qZ (by repeat (first|(with_reducible first|exact HB.out|apply qA|apply qN|apply q1_|refine qS ?_ GE531.out)|exact HB.out))):w.heap.size≤gb553));have n8_:=Zz.mk ((by rw [hg];exact Nat.ne_of_lt (blk_lt (g:=gb531) (o:=.cells #[.slice none 0 0] 24 (0,0)) (by (with_reducible repeat first|apply bN|apply bD|apply bA);exact BK531.out)):gb531 ≠ gb553));have n9_:=Zz.mk ((by rw [hg];exact Nat.ne_of_gt (blk_lt (g:=gb531) (o:=.cells #[.slice none 0 0] 24 (0,0)) (by (with_reducible repeat first|apply bN|apply bD|apply bA);exact BK531.out)):gb553 ≠ gb531));clear HO_4;clear HO_6;clear HO551;clear BK531;clear HB;have HO_4:=n0_;have HO_6:=n1_;have HO551:=n2_;have BK531:=n3_;have HB:=n4_;have BK553:=n5_;have GW553:=n6_;have GE553:=n7_;have NB531_553:=n8_;have NB553_531:=n9_;clear n0_ n1_ n2_ n3_ n4_ n5_ n6_ n7_ n8_ n9_;clear hb hbox hg;obtain ⟨Ao124,co124,eo124⟩:=Kd.R_slice HO551.out;subst eo124;have hnb125:=NB553_531.out;have hnc125:=NB531_553.out;have hcz126_0:w123.cell? ⟨gb553,0,none⟩=some (.slice none 0 0):=(bC BK553.out 0).trans rfl;have hfz126_0:=bF BK553.out 0;have hcz127_0:w123.cell? ⟨gb531,0,none⟩=some (.slice none 0 0):=(bC BK531.out 0).trans rfl;have hfz127_0:=bF BK531.out 0))
          repeat (go_quiet (first|(go_at_call 18;(with_reducible refine (impl_ofWords.calls _ _ x6_1 t549 false _ ?side1 ?side2 A100.out).mono ?_);(case side1=>repeat (first|exact (Kd.R_reads' HO_6.out).2.2|(with_reducible refine Kd.C_alloc ?_ _)|(with_reducible refine Kd.C_drewN ?_ _)|(with_reducible refine Kd.C_drew ?_)));(case side2=>exact (Kd.R_reads' HO_6.out).2.1);rintro e w122 ⟨v550,rfl,ho0,hb⟩;have n0_:=Zz.mk (Kd.R_below (by (with_reducible repeat first|apply Kd.R_alloc|apply Kd.R_drewN|apply Kd.R_drew);exact HO_4.out) hb);have n1_:=Zz.mk (Kd.R_below (by (with_reducible repeat first|apply Kd.R_alloc|apply Kd.R_drewN|apply Kd.R_drew);exact HO_6.out) hb);have n2_:=Zz.mk (Kd.R_lower ho0 (qZ (by repeat (first|(with_reducible first|exact HB.out|apply qA|apply qN|apply q1_|refine qS ?_ GE531.out)|exact HB.out))));have n3_:=Zz.mk (bB (g:=gb531) (o:=.cells #[.slice none 0 0] 24 (0,0)) (by (with_reducible repeat first|apply bN|apply bD|apply bA);exact BK531.out) hb);have n4_:=Zz.mk (qP (by repeat (first|(with_reducible first|exact HB.out|apply qA|apply qN|apply q1_|refine qS ?_ GE531.out)|exact HB.out)) hb);clear HO_4;clear HO_6;clear BK531;clear HB;have HO_4:=n0_;have HO_6:=n1_;have HO551:=n2_;have BK531:=n3_;have HB:=n4_;clear n0_ n1_ n2_ n3_ n4_;(try clear hb);(try clear hb2);(try clear hk);(try clear hi);(try clear ho0))|((with_reducible refine gate_dst (N:=9) rfl ?_);(try (refine gate_guard (by rfl) ?_;dsimp only));refine box_event ?hg (N:=9) ?hd (cs:=#[.slice none 0 0]) (t:=24) ?hr ?_;(case hd=>rfl);(case hg=>rfl);(case hr=>first|(go_simp;done)|(go_simp;rfl));intro gb553 hg w123 hbox hb;have n0_:=Zz.mk (Kd.R_below (by (with_reducible repeat first|apply Kd.R_alloc|apply Kd.R_drewN|apply Kd.R_drew);exact HO_4.out) hb);have n1_:=Zz.mk (Kd.R_below (by (with_reducible repeat first|apply Kd.R_alloc|apply Kd.R_drewN|apply Kd.R_drew);exact HO_6.out) hb);have n2_:=Zz.mk (Kd.R_below (by (with_reducible repeat first|apply Kd.R_alloc|apply Kd.R_drewN|apply Kd.R_drew);exact HO551.out) hb);have n3_:=Zz.mk (bB (g:=gb531) (o:=.cells #[.slice none 0 0] 24 (0,0)) (by (with_reducible repeat first|apply bN|apply bD|apply bA);exact BK531.out) hb);have n4_:=Zz.mk (qP (by repeat (first|(with_reducible first|exact HB.out|apply qA|apply qN|apply q1_|refine qS ?_ GE531.out)|exact HB.out)) hb);have n5_:=Zz.mk (hbox);have n6_:=Zz.mk ((by rw [hg];exact (qZ (by repeat (first|(with_reducible first|exact HB.out|apply qA|apply qN|apply q1_|refine qS ?_ GE531.out)|exact HB.out))):w.heap.size≤gb553));have n7_:=Zz.mk ((by rw [hg];exact (qZ (by repeat (first|(with_reducible first|exact HB.out|apply qA|apply qN|apply q1_|refine qS ?_ GE531.out)|exact HB.out))):w.heap.size≤gb553));have n8_:=Zz.mk ((by rw [hg];exact Nat.ne_of_lt (blk_lt (g:=gb531) (o:=.cells #[.slice none 0 0] 24 (0,0)) (by (with_reducible repeat first|apply bN|apply bD|apply bA);exact BK531.out)):gb531 ≠ gb553));have n9_:=Zz.mk ((by rw [hg];exact Nat.ne_of_gt (blk_lt (g:=gb531) (o:=.cells #[.slice none 0 0] 24 (0,0)) (by (with_reducible repeat first|apply bN|apply bD|apply bA);exact BK531.out)):gb553 ≠ gb531));clear HO_4;clear HO_6;clear HO551;clear BK531;clear HB;have HO_4:=n0_;have HO_6:=n1_;have HO551:=n2_;have BK531:=n3_;have HB:=n4_;have BK553:=n5_;have GW553:=n6_;have GE553:=n7_;have NB531_553:=n8_;have NB553_531:=n9_;clear n0_ n1_ n2_ n3_ n4_ n5_ n6_ n7_ n8_ n9_;clear hb hbox hg;obtain ⟨Ao124,co124,eo124⟩:=Kd.R_slice HO551.out;subst eo124;have hnb125:=NB553_531.out;have hnc125:=NB531_553.out;have hcz126_0:w123.cell? ⟨gb553,0,none⟩=some (.slice none 0 0):=(bC BK553.out 0).trans rfl;have hfz126_0:=bF BK553.out 0;have hcz127_0:w123.cell? ⟨gb531,0,none⟩=some (.slice none 0 0):=(bC BK531.out 0).trans rfl;have hfz127_0:=bF BK531.out 0));try go_wp2_with (first|(go_at_call 18;(with_reducible refine (impl_ofWords.calls _ _ x6_1 t549 false _ ?side1 ?side2 A100.out).mono ?_);(case side1=>repeat (first|exact (Kd.R_reads' HO_6.out).2.2|(with_reducible refine Kd.C_alloc ?_ _)|(with_reducible refine Kd.C_drewN ?_ _)|(with_reducible refine Kd.C_drew ?_)));(case side2=>exact (Kd.R_reads' HO_6.out).2.1);rintro e w122 ⟨v550,rfl,ho0,hb⟩;have n0_:=Zz.mk (Kd.R_below (by (with_reducible repeat first|apply Kd.R_alloc|apply Kd.R_drewN|apply Kd.R_drew);exact HO_4.out) hb);have n1_:=Zz.mk (Kd.R_below (by (with_reducible repeat first|apply Kd.R_alloc|apply Kd.R_drewN|apply Kd.R_drew);exact HO_6.out) hb);have n2_:=Zz.mk (Kd.R_lower ho0 (qZ (by repeat (first|(with_reducible first|exact HB.out|apply qA|apply qN|apply q1_|refine qS ?_ GE531.out)|exact HB.out))));have n3_:=Zz.mk (bB (g:=gb531) (o:=.cells #[.slice none 0 0] 24 (0,0)) (by (with_reducible repeat first|apply bN|apply bD|apply bA);exact BK531.out) hb);have n4_:=Zz.mk (qP (by repeat (first|(with_reducible first|exact HB.out|apply qA|apply qN|apply q1_|refine qS ?_ GE531.out)|exact HB.out)) hb);clear HO_4;clear HO_6;clear BK531;clear HB;have HO_4:=n0_;have HO_6:=n1_;have HO551:=n2_;have BK531:=n3_;have HB:=n4_;clear n0_ n1_ n2_ n3_ n4_;(try clear hb);(try clear hb2);(try clear hk);(try clear hi);(try clear ho0))|((with_reducible refine gate_dst (N:=9) rfl ?_);(try (refine gate_guard (by rfl) ?_;dsimp only));refine box_event ?hg (N:=9) ?hd (cs:=#[.slice none 0 0]) (t:=24) ?hr ?_;(case hd=>rfl);(case hg=>rfl);(case hr=>first|(go_simp;done)|(go_simp;rfl));intro gb553 hg w123 hbox hb;have n0_:=Zz.mk (Kd.R_below (by (with_reducible repeat first|apply Kd.R_alloc|apply Kd.R_drewN|apply Kd.R_drew);exact HO_4.out) hb);have n1_:=Zz.mk (Kd.R_below (by (with_reducible repeat first|apply Kd.R_alloc|apply Kd.R_drewN|apply Kd.R_drew);exact HO_6.out) hb);have n2_:=Zz.mk (Kd.R_below (by (with_reducible repeat first|apply Kd.R_alloc|apply Kd.R_drewN|apply Kd.R_drew);exact HO551.out) hb);have n3_:=Zz.mk (bB (g:=gb531) (o:=.cells #[.slice none 0 0] 24 (0,0)) (by (with_reducible repeat first|apply bN|apply bD|apply bA);exact BK531.out) hb);have n4_:=Zz.mk (qP (by repeat (first|(with_reducible first|exact HB.out|apply qA|apply qN|apply q1_|refine qS ?_ GE531.out)|exact HB.out)) hb);have n5_:=Zz.mk (hbox);have n6_:=Zz.mk ((by rw [hg];exact (qZ (by repeat (first|(with_reducible first|exact HB.out|apply qA|apply qN|apply q1_|refine qS ?_ GE531.out)|exact HB.out))):w.heap.size≤gb553));have n7_:=Zz.mk ((by rw [hg];exact (qZ (by repeat (first|(with_reducible first|exact HB.out|apply qA|apply qN|apply q1_|refine qS ?_ GE531.out)|exact HB.out))):w.heap.size≤gb553));have n8_:=Zz.mk ((by rw [hg];exact Nat.ne_of_lt (blk_lt (g:=gb531) (o:=.cells #[.slice none 0 0] 24 (0,0)) (by (with_reducible repeat first|apply bN|apply bD|apply bA);exact BK531.out)):gb531 ≠ gb553));have n9_:=Zz.mk ((by rw [hg];exact Nat.ne_of_gt (blk_lt (g:=gb531) (o:=.cells #[.slice none 0 0] 24 (0,0)) (by (with_reducible repeat first|apply bN|apply bD|apply bA);exact BK531.out)):gb553 ≠ gb531));clear HO_4;clear HO_6;clear HO551;clear BK531;clear HB;have HO_4:=n0_;have HO_6:=n1_;have HO551:=n2_;have BK531:=n3_;have HB:=n4_;have BK553:=n5_;have GW553:=n6_;have GE553:=n7_;have NB531_553:=n8_;have NB553_531:=n9_;clear n0_ n1_ n2_ n3_ n4_ n5_ n6_ n7_ n8_ n9_;clear hb hbox hg;obtain ⟨Ao124,co124,eo124⟩:=Kd.R_slice HO551.out;subst eo124;have hnb125:=NB553_531.out;have hnc125:=NB531_553.out;have hcz126_0:w123.cell? ⟨gb553,0,none⟩=some (.slice none 0 0):=(bC BK553.out 0).trans rfl;have hfz126_0:=bF BK553.out 0;have hcz127_0:w123.cell? ⟨gb531,0,none⟩=some (.slice none 0 0):=(bC BK531.out 0).trans rfl;have hfz127_0:=bF BK531.out 0)))
          refine bodyPost_ret (results_ct rfl _ _ gb531 24 #[.slice none 0 0] (0,0) _ rfl (by (with_reducible repeat first|apply bN|apply bD|apply bA);refine blk_put (cs:=#[.slice none 0 0]) ?_ 0 _ rfl;(with_reducible repeat first|apply bN|apply bD|apply bA);refine blk_far ?_ NB531_553.out _;(with_reducible repeat first|apply bN|apply bD|apply bA);exact BK531.out) Try.underlying24 rfl (by kernel_rfl)) rfl ?_
          exact ⟨_,by first|rfl|(simp [errW_none,errW_some] <;> rfl)|(simp [*,errW_none,errW_some] <;> rfl),by first|exact Kd.R_nil _ _ _ _ _|exact Kd.N_nil _ _ _ _ _|exact Kd.V_nil _ _ _ _ _|exact Kd.Q_nil _ _ _ _ _|exact Kd.S_nil _ _ _ _ _,by repeat (first|(with_reducible first|exact HB.out|apply qA|apply qN|apply q1_|refine qS ?_ GE531.out|refine qS ?_ GE553.out)|exact HB.out)⟩
end Go.Proofs.Ytghkbgmbbcaecaa.Q
namespace Go.Proofs.Ytghkbgmbbcaecaa.Q
open Go.RowKit Go.Proofs.YtghkbgmbbcaecaaW.PrintWords Go.Proofs.YtghkbgmbbcaecaaW.PrintLast Go.Proofs.YtghkbgmbbcaecaaW.PrintMore
attribute [local go_sem] run_field_23 run_field_24 run_field_31 run_field_32 run_field_35 run_field_36 isSome_setCell max2_int min2_int max_two min_two max_three min_three max_four min_four   -- for this text's walks alone
set_option linter.unusedVariables false
set_option linter.unusedSimpArgs false
def laws_heldNodeS.l0:Nat→List (S62)→Int→Int→Option (Int)
  | 0,_,_,_=>none
  | k+1,x0,x1,x5=>if x5<(x0.length:Int) then (if 0≤x5 then (if ((rT x0 x5).f0)=x1 then (if ((rT x0 x5).f1)=(wrap64 (x1+1)) then (if (((rT x0 x5).f2) != ((Int.tmod (wrap64 ((wrap64 (x1+1))+1)) 3) == 0))=true then (some (-1)) else (laws_heldNodeS.l0 k x0 (wrap64 ((wrap64 ((wrap64 (x1+1))+1))+1)) (wrap64 (x5+1)))) else (some (-1))) else (some (-1))) else (none)) else (some x1)
def laws_heldNodeS.f (k:Nat) (l0:List (S62)) (a1:Int):Option (Int):=laws_heldNodeS.l0 k l0 a1 0
set_option maxHeartbeats 8000000 in
set_option maxRecDepth 100000 in
theorem laws_heldNodeS.calls (k:Nat) (A0:Option Addr) (c0:Nat) (l0:List (S62)) (a1:Int) (r:Int) (w:World) (hr0:Kd.C k62 w A0 l0.length l0) (hc0:l0.length≤c0) (h:laws_heldNodeS.f k l0 a1=some r) :
    Calls Try.prog 22 #[.slice A0 l0.length c0,.int .i64 a1] w fun e w'=>e=.returned (.int .i64 r)∧Drawn0 w w':=by
  have HR0:=Zz.mk hr0
  have HC0:=Zz.mk hc0
  clear hr0 hc0
  have H:(laws_heldNodeS.l0 k l0 a1 0)=some r:=h
  clear h
  have H':=Zz.mk H
  clear H
  go_enter Try.func22,Try.ntmps22
  go_wp2
  go_loopg [1,5] k (fun kq v1 v5 w'=>∃ (x1_1:Int) (x5_1:Int),v1=.int .i64 x1_1∧v5=.int .i64 x5_1∧Zz (laws_heldNodeS.l0 kq l0 x1_1 x5_1=some r)∧Zz (kq≤k)∧Drawn0 w w')
  case atStart=>exact ⟨(a1),(0),(by first|rfl|(simp;done)|(simp [*];done)),(by first|rfl|(simp;done)|(simp [*];done)),H',⟨Nat.le_refl _⟩,by repeat (first|exact Drawn0.refl _|apply Drawn0.step)⟩
  case round =>
    clear H'
    try clear c2
    try clear p2
    obtain ⟨x1_1,x5_1,rfl,rfl,HA,HK1,⟨m1,rfl⟩⟩:=hrel
    cases gk with
    | zero=>exact absurd HA.out (by simp [laws_heldNodeS.l0])
    | succ k1 =>
      have H:=HA.out
      clear HA
      simp only [laws_heldNodeS.l0] at H
      by_cases c3:x5_1<(l0.length:Int)
      · rw [if_pos c3] at H
        have c3b0:decide (x5_1<(l0.length:Int))=true:=decide_eq_true c3
        clear c3
        by_cases c4:0≤x5_1
        · rw [if_pos c4] at H
          have c4b0:decide (0≤x5_1)=true:=decide_eq_true c4
          clear c4
          by_cases c5:((rT l0 x5_1).f0)=x1_1
          · rw [if_pos c5] at H
            have c5b0:(((rT l0 x5_1).f0) == x1_1)=true:=beq_iff_eq.mpr c5
            have c5b1:(((rT l0 x5_1).f0) != x1_1)=false:=bne_eq_false_iff_eq.mpr c5
            clear c5
            by_cases c6:((rT l0 x5_1).f1)=(wrap64 (x1_1+1))
            · rw [if_pos c6] at H
              have c6b0:(((rT l0 x5_1).f1) == (wrap64 (x1_1+1)))=true:=beq_iff_eq.mpr c6
              have c6b1:(((rT l0 x5_1).f1) != (wrap64 (x1_1+1)))=false:=bne_eq_false_iff_eq.mpr c6
              clear c6
              by_cases c7:(((rT l0 x5_1).f2) != ((Int.tmod (wrap64 ((wrap64 (x1_1+1))+1)) 3) == 0))=true
              · rw [if_pos c7] at H
                have c7b0:(((rT l0 x5_1).f2) != ((Int.tmod (wrap64 ((wrap64 (x1_1+1))+1)) 3) == 0))=true:=c7
                (try (have c7b1:decide (((rT l0 x5_1).f2)=((Int.tmod (wrap64 ((wrap64 (x1_1+1))+1)) 3) == 0))=false:=by simpa using c7))
                (try (have c7b2:(((rT l0 x5_1).f2) == ((Int.tmod (wrap64 ((wrap64 (x1_1+1))+1)) 3) == 0))=false:=by simpa using c7))
                (try (have c7b3:¬ (((rT l0 x5_1).f2)=((Int.tmod (wrap64 ((wrap64 (x1_1+1))+1)) 3) == 0)):=by simpa using c7))
                clear c7
                obtain rfl:=Option.some.inj H
                have p555:0≤(x5_1:Int):=of_decide_eq_true (by first|(with_reducible assumption)|assumption)
                have q555:x5_1<(l0.length:Int):=of_decide_eq_true (by first|(with_reducible assumption)|assumption)
                obtain ⟨ad555,e555,hx555_0,hx555_1,hx555_2⟩:=at_T62 HR0.out x5_1 p555 q555
                cases e555
                replace p555:=eq_true p555
                replace q555:=eq_true q555
                have p556:0≤(x5_1:Int):=of_decide_eq_true (by first|(with_reducible assumption)|assumption)
                have q556:x5_1<(l0.length:Int):=of_decide_eq_true (by first|(with_reducible assumption)|assumption)
                obtain ⟨ad556,e556,hx556_0,hx556_1,hx556_2⟩:=at_T62 HR0.out x5_1 p556 q556
                obtain rfl:ad555=ad556:=(by injection e556)
                replace p556:=eq_true p556
                replace q556:=eq_true q556
                have p557:0≤(x5_1:Int):=of_decide_eq_true (by first|(with_reducible assumption)|assumption)
                have q557:x5_1<(l0.length:Int):=of_decide_eq_true (by first|(with_reducible assumption)|assumption)
                obtain ⟨ad557,e557,hx557_0,hx557_1,hx557_2⟩:=at_T62 HR0.out x5_1 p557 q557
                obtain rfl:ad555=ad557:=(by injection e557)
                replace p557:=eq_true p557
                replace q557:=eq_true q557
                go_wp2
                go_ret
                exact ⟨by first|rfl|(simp;done)|(simp [*];done),by repeat (first|exact Drawn0.refl _|apply Drawn0.step)⟩
              · rw [if_neg c7] at H
                have c7b0:(((rT l0 x5_1).f2) != ((Int.tmod (wrap64 ((wrap64 (x1_1+1))+1)) 3) == 0))=false:=by simpa using c7
                (try (have c7b1:decide (((rT l0 x5_1).f2)=((Int.tmod (wrap64 ((wrap64 (x1_1+1))+1)) 3) == 0))=true:=by simpa using c7))
                (try (have c7b2:(((rT l0 x5_1).f2) == ((Int.tmod (wrap64 ((wrap64 (x1_1+1))+1)) 3) == 0))=true:=by simpa using c7))
                clear c7
                have H':=Zz.mk H
                clear H
                have p555:0≤(x5_1:Int):=of_decide_eq_true (by first|(with_reducible assumption)|assumption)
                have q555:x5_1<(l0.length:Int):=of_decide_eq_true (by first|(with_reducible assumption)|assumption)
                obtain ⟨ad555,e555,hx555_0,hx555_1,hx555_2⟩:=at_T62 HR0.out x5_1 p555 q555
                cases e555
                replace p555:=eq_true p555
                replace q555:=eq_true q555
                have p556:0≤(x5_1:Int):=of_decide_eq_true (by first|(with_reducible assumption)|assumption)
                have q556:x5_1<(l0.length:Int):=of_decide_eq_true (by first|(with_reducible assumption)|assumption)
                obtain ⟨ad556,e556,hx556_0,hx556_1,hx556_2⟩:=at_T62 HR0.out x5_1 p556 q556
                obtain rfl:ad555=ad556:=(by injection e556)
                replace p556:=eq_true p556
                replace q556:=eq_true q556
                have p557:0≤(x5_1:Int):=of_decide_eq_true (by first|(with_reducible assumption)|assumption)
                have q557:x5_1<(l0.length:Int):=of_decide_eq_true (by first|(with_reducible assumption)|assumption)
                obtain ⟨ad557,e557,hx557_0,hx557_1,hx557_2⟩:=at_T62 HR0.out x5_1 p557 q557
                obtain rfl:ad555=ad557:=(by injection e557)
                replace p557:=eq_true p557
                replace q557:=eq_true q557
                go_wp2
                go_roundg k1
                case measure=>have:=HK1.out;omega
                case rel=>exact ⟨(wrap64 ((wrap64 ((wrap64 (x1_1+1))+1))+1)),(wrap64 (x5_1+1)),(by first|rfl|(simp;done)|(simp [*];done)),(by first|rfl|(simp;done)|(simp [*];done)),H',⟨by have:=HK1.out;omega⟩,by repeat (first|exact Drawn0.refl _|apply Drawn0.step)⟩
            · rw [if_neg c6] at H
              have c6b0:(((rT l0 x5_1).f1) == (wrap64 (x1_1+1)))=false:=beq_eq_false_iff_ne.mpr c6
              have c6b1:(((rT l0 x5_1).f1) != (wrap64 (x1_1+1)))=true:=bne_iff_ne.mpr c6
              obtain rfl:=Option.some.inj H
              have p555:0≤(x5_1:Int):=of_decide_eq_true (by first|(with_reducible assumption)|assumption)
              have q555:x5_1<(l0.length:Int):=of_decide_eq_true (by first|(with_reducible assumption)|assumption)
              obtain ⟨ad555,e555,hx555_0,hx555_1,hx555_2⟩:=at_T62 HR0.out x5_1 p555 q555
              cases e555
              replace p555:=eq_true p555
              replace q555:=eq_true q555
              have p556:0≤(x5_1:Int):=of_decide_eq_true (by first|(with_reducible assumption)|assumption)
              have q556:x5_1<(l0.length:Int):=of_decide_eq_true (by first|(with_reducible assumption)|assumption)
              obtain ⟨ad556,e556,hx556_0,hx556_1,hx556_2⟩:=at_T62 HR0.out x5_1 p556 q556
              obtain rfl:ad555=ad556:=(by injection e556)
              replace p556:=eq_true p556
              replace q556:=eq_true q556
              go_wp2
              go_ret
              exact ⟨by first|rfl|(simp;done)|(simp [*];done),by repeat (first|exact Drawn0.refl _|apply Drawn0.step)⟩
          · rw [if_neg c5] at H
            have c5b0:(((rT l0 x5_1).f0) == x1_1)=false:=beq_eq_false_iff_ne.mpr c5
            have c5b1:(((rT l0 x5_1).f0) != x1_1)=true:=bne_iff_ne.mpr c5
            obtain rfl:=Option.some.inj H
            have p555:0≤(x5_1:Int):=of_decide_eq_true (by first|(with_reducible assumption)|assumption)
            have q555:x5_1<(l0.length:Int):=of_decide_eq_true (by first|(with_reducible assumption)|assumption)
            obtain ⟨ad555,e555,hx555_0,hx555_1,hx555_2⟩:=at_T62 HR0.out x5_1 p555 q555
            cases e555
            replace p555:=eq_true p555
            replace q555:=eq_true q555
            go_wp2
            go_ret
            exact ⟨by first|rfl|(simp;done)|(simp [*];done),by repeat (first|exact Drawn0.refl _|apply Drawn0.step)⟩
        · rw [if_neg c4] at H
          exact absurd H (by simp)
      · rw [if_neg c3] at H
        have c3b0:decide (x5_1<(l0.length:Int))=false:=decide_eq_false c3
        clear c3
        obtain rfl:=Option.some.inj H
        go_wp2
        go_ret
        exact ⟨by first|rfl|(simp;done)|(simp [*];done),by repeat (first|exact Drawn0.refl _|apply Drawn0.step)⟩
def laws_heldTrie.f (k:Nat) (l0_0:List (S62)) (a1:Int):Option (Int):=(laws_heldNodeS.f k l0_0 a1).bind fun t559=>(if t559<0 then (some (-1)) else (some t559))
set_option maxHeartbeats 8000000 in
set_option maxRecDepth 100000 in
theorem laws_heldTrie.calls (k:Nat) (A0_0:Option Addr) (c0_0:Nat) (l0_0:List (S62)) (a1:Int) (r:Int) (w:World) (hr0_0:Kd.C k62 w A0_0 l0_0.length l0_0) (hc0_0:l0_0.length≤c0_0) (h:laws_heldTrie.f k l0_0 a1=some r) :
    Calls Try.prog 9 #[.agg #[.slice A0_0 l0_0.length c0_0],.int .i64 a1] w fun e w'=>e=.returned (.int .i64 r)∧Below w.heap.size w w':=by
  have hu24:=Try.underlying24
  have HR0_0:=Zz.mk hr0_0
  have HC0_0:=Zz.mk hc0_0
  clear hr0_0 hc0_0
  have HB:=Zz.mk (Below.refl w.heap.size w)
  have H:((laws_heldNodeS.f k l0_0 a1).bind fun t559=>(if t559<0 then (some (-1)) else (some t559)))=some r:=h
  clear h
  replace H:=Option.bind_eq_some_iff.mp H
  obtain ⟨t559,A30,H⟩:=H
  replace H:(if t559<0 then (some (-1)) else (some t559))=some r:=H
  have A3:=Zz.mk A30
  clear A30
  by_cases c4:t559<0
  · rw [if_pos c4] at H
    have c4b0:decide (t559<0)=true:=decide_eq_true c4
    clear c4
    obtain rfl:=Option.some.inj H
    go_enter Try.func9,Try.ntmps9
    go_wp2_with (first|((with_reducible refine gate_dst (N:=2) rfl ?_);refine box_event ?hg (N:=2) ?hd (cs:=#[.slice A0_0 l0_0.length c0_0]) (t:=24) ?hr ?_;(case hd=>rfl);(case hg=>rfl);(case hr=>first|(go_simp;done)|(go_simp;rfl));intro gb558 hg w5 hbox hb;have n0_:=Zz.mk (qP (by repeat (first|(with_reducible first|exact HB.out|apply qA|apply qN|apply q1_)|exact HB.out)) hb);have n1_:=Zz.mk (hbox);have n2_:=Zz.mk ((by rw [hg];exact (qZ (by repeat (first|(with_reducible first|exact HB.out|apply qA|apply qN|apply q1_)|exact HB.out))):w.heap.size≤gb558));have n3_:=Zz.mk ((by rw [hg];exact (qZ (by repeat (first|(with_reducible first|exact HB.out|apply qA|apply qN|apply q1_)|exact HB.out))):w.heap.size≤gb558));clear HB;have HB:=n0_;have BK558:=n1_;have GW558:=n2_;have GE558:=n3_;clear n0_ n1_ n2_ n3_;clear hb hbox hg;have hcz6_0:w5.cell? ⟨gb558,0,none⟩=some (.slice A0_0 l0_0.length c0_0):=(bC BK558.out 0).trans rfl;have hfz6_0:=bF BK558.out 0)|((with_reducible refine gate_callee (f:=22) rfl ?_);refine goesL_ (some 8) rfl rfl Try.func22 (by kernel_rfl) rfl #[.slice A0_0 l0_0.length c0_0,.int .i64 a1] rfl (by (try simp only [List.map_toArray,List.map_cons,List.map_nil]);first|done|rfl|(simp only [List.length_drop,List.length_take];rfl)) ?_;(with_reducible refine (laws_heldNodeS.calls k _ _ l0_0 a1 t559 _ ?side1 ?side2 A3.out).mono ?_);(case side1=>repeat (first|exact (Kd.C_below HR0_0.out HB.out)|(with_reducible refine Kd.C_alloc ?_ _)|(with_reducible refine Kd.C_drewN ?_ _)|(with_reducible refine Kd.C_drew ?_)));(case side2=>exact HC0_0.out);rintro e w' ⟨rfl,⟨nd,rfl⟩⟩;refine ⟨_,rfl,?_⟩))
    go_ret
    exact ⟨by first|rfl|(simp [errW_none,errW_some] <;> rfl)|(simp [*,errW_none,errW_some] <;> rfl),by repeat (first|(with_reducible first|exact HB.out|apply qA|apply qN|apply q1_|refine qS ?_ GE558.out)|exact HB.out)⟩
  · rw [if_neg c4] at H
    have c4b0:decide (t559<0)=false:=decide_eq_false c4
    clear c4
    obtain rfl:=Option.some.inj H
    go_enter Try.func9,Try.ntmps9
    go_wp2_with (first|((with_reducible refine gate_dst (N:=2) rfl ?_);refine box_event ?hg (N:=2) ?hd (cs:=#[.slice A0_0 l0_0.length c0_0]) (t:=24) ?hr ?_;(case hd=>rfl);(case hg=>rfl);(case hr=>first|(go_simp;done)|(go_simp;rfl));intro gb558 hg w7 hbox hb;have n0_:=Zz.mk (qP (by repeat (first|(with_reducible first|exact HB.out|apply qA|apply qN|apply q1_)|exact HB.out)) hb);have n1_:=Zz.mk (hbox);have n2_:=Zz.mk ((by rw [hg];exact (qZ (by repeat (first|(with_reducible first|exact HB.out|apply qA|apply qN|apply q1_)|exact HB.out))):w.heap.size≤gb558));have n3_:=Zz.mk ((by rw [hg];exact (qZ (by repeat (first|(with_reducible first|exact HB.out|apply qA|apply qN|apply q1_)|exact HB.out))):w.heap.size≤gb558));clear HB;have HB:=n0_;have BK558:=n1_;have GW558:=n2_;have GE558:=n3_;clear n0_ n1_ n2_ n3_;clear hb hbox hg;have hcz8_0:w7.cell? ⟨gb558,0,none⟩=some (.slice A0_0 l0_0.length c0_0):=(bC BK558.out 0).trans rfl;have hfz8_0:=bF BK558.out 0)|((with_reducible refine gate_callee (f:=22) rfl ?_);refine goesL_ (some 8) rfl rfl Try.func22 (by kernel_rfl) rfl #[.slice A0_0 l0_0.length c0_0,.int .i64 a1] rfl (by (try simp only [List.map_toArray,List.map_cons,List.map_nil]);first|done|rfl|(simp only [List.length_drop,List.length_take];rfl)) ?_;(with_reducible refine (laws_heldNodeS.calls k _ _ l0_0 a1 t559 _ ?side1 ?side2 A3.out).mono ?_);(case side1=>repeat (first|exact (Kd.C_below HR0_0.out HB.out)|(with_reducible refine Kd.C_alloc ?_ _)|(with_reducible refine Kd.C_drewN ?_ _)|(with_reducible refine Kd.C_drew ?_)));(case side2=>exact HC0_0.out);rintro e w' ⟨rfl,⟨nd,rfl⟩⟩;refine ⟨_,rfl,?_⟩))
    go_ret
    exact ⟨by first|rfl|(simp [errW_none,errW_some] <;> rfl)|(simp [*,errW_none,errW_some] <;> rfl),by repeat (first|(with_reducible first|exact HB.out|apply qA|apply qN|apply q1_|refine qS ?_ GE558.out)|exact HB.out)⟩
mutual
def laws_FnExactParseTrie.j0:Nat→ByteArray→Bool→Bool→List (S62)→List (S62)→Option (Bool)
  | 0,_,_,_,_,_=>none
  | k+1,x0,x4,x32,x565000,x570000=>if x32=true then (some false) else ((laws_markTrie.f k x570000 1).bind fun bt571=>((laws_heldTrie.f k bt571.2 1).bind fun t573=>(if t573<0 then (some false) else (if t573=bt571.1 then ((impl_ParseTrie.f k x0).bind fun bt574=>((laws_eqTrie.f k bt574.1 x565000).bind fun t579=>(if t579=true then (laws_FnExactParseTrie.j1 k bt571.1 (bt574.2 != x4) bt571.2) else (laws_FnExactParseTrie.j1 k bt571.1 true bt571.2)))) else (some false)))))
def laws_FnExactParseTrie.j1:Nat→Int→Bool→List (S62)→Option (Bool)
  | 0,_,_,_=>none
  | k+1,x7,x57,x570000=>if x57=true then (some false) else ((laws_heldTrie.f k x570000 1).bind fun t580=>(if t580<0 then (some false) else (if t580=x7 then (some true) else (some false))))
end
def laws_FnExactParseTrie.f (k:Nat) (a0:ByteArray):Option (Bool):=if (a0.size:Int) > 1048576 then (some true) else ((spec_ParseTrie.f k a0).bind fun bt560=>((impl_ParseTrie.f k a0).bind fun bt565=>((laws_eqTrie.f k bt565.1 bt560.1).bind fun t570=>(if t570=true then (laws_FnExactParseTrie.j0 k a0 bt560.2 (bt565.2 != bt560.2) bt560.1 bt565.1) else (laws_FnExactParseTrie.j0 k a0 bt560.2 true bt560.1 bt565.1)))))
set_option maxHeartbeats 8000000 in
set_option maxRecDepth 100000 in
theorem laws_FnExactParseTrie.calls (k:Nat) (a0:ByteArray) (r:Bool) (w:World) (h:laws_FnExactParseTrie.f k a0=some true) :
    Calls Try.prog 3 #[.string a0] w fun e w'=>e=.returned (.bool true)∧Below w.heap.size w w':=by
  have hu24:=Try.underlying24
  have HB:=Zz.mk (Below.refl w.heap.size w)
  have H:(if (a0.size:Int) > 1048576 then (some true) else ((spec_ParseTrie.f k a0).bind fun bt560=>((impl_ParseTrie.f k a0).bind fun bt565=>((laws_eqTrie.f k bt565.1 bt560.1).bind fun t570=>(if t570=true then (laws_FnExactParseTrie.j0 k a0 bt560.2 (bt565.2 != bt560.2) bt560.1 bt565.1) else (laws_FnExactParseTrie.j0 k a0 bt560.2 true bt560.1 bt565.1))))))=some true:=h
  clear h
  by_cases c2:(a0.size:Int) > 1048576
  · rw [if_pos c2] at H
    have c2b0:decide (1048576<(a0.size:Int))=true:=decide_eq_true c2
    have c2b1:decide (1048576<a0.size)=true:=decide_eq_true (by omega)
    clear c2
    (first|(obtain rfl:=Option.some.inj H)|(have hH_:=Option.some.inj H;try simp only [hH_]))
    go_enter Try.func3,Try.ntmps3
    go_wp2
    go_ret
    exact ⟨by first|rfl|(simp [errW_none,errW_some] <;> rfl)|(simp [*,errW_none,errW_some] <;> rfl),by repeat (first|(with_reducible first|exact HB.out|apply qA|apply qN|apply q1_)|exact HB.out)⟩
  · rw [if_neg c2] at H
    have c2b0:decide (1048576<(a0.size:Int))=false:=decide_eq_false c2
    have c2b1:decide (1048576<a0.size)=false:=decide_eq_false (by omega)
    clear c2
    replace H:=Option.bind_eq_some_iff.mp H
    obtain ⟨⟨t560,t563⟩,A30,H⟩:=H
    replace H:((impl_ParseTrie.f k a0).bind fun bt565=>((laws_eqTrie.f k bt565.1 t560).bind fun t570=>(if t570=true then (laws_FnExactParseTrie.j0 k a0 t563 (bt565.2 != t563) t560 bt565.1) else (laws_FnExactParseTrie.j0 k a0 t563 true t560 bt565.1))))=some true:=H
    have A3:=Zz.mk A30
    clear A30
    replace H:=Option.bind_eq_some_iff.mp H
    obtain ⟨⟨t565,t568⟩,A40,H⟩:=H
    replace H:((laws_eqTrie.f k t565 t560).bind fun t570=>(if t570=true then (laws_FnExactParseTrie.j0 k a0 t563 (t568 != t563) t560 t565) else (laws_FnExactParseTrie.j0 k a0 t563 true t560 t565)))=some true:=H
    have A4:=Zz.mk A40
    clear A40
    have HC5:=Zz.mk H
    clear H
    go_enter Try.func3,Try.ntmps3
    go_upto_region 5 with (first|((with_reducible refine gate_callee (f:=5) rfl ?_);refine goesL_ (some 16) rfl rfl Try.func5 (by kernel_rfl) rfl #[.string a0] rfl (by (try simp only [List.map_toArray,List.map_cons,List.map_nil]);first|done|rfl|(simp only [List.length_drop,List.length_take];rfl)) ?_;(with_reducible refine (spec_ParseTrie.calls k a0 t560 t563 _ A3.out).mono ?_);rintro e w6 ⟨v561,rfl,ho0,hb⟩;refine ⟨_,rfl,?_⟩;have n0_:=Zz.mk (Kd.R_lower ho0 (qZ (by repeat (first|(with_reducible first|exact HB.out|apply qA|apply qN|apply q1_)|exact HB.out))));have n1_:=Zz.mk (qP (by repeat (first|(with_reducible first|exact HB.out|apply qA|apply qN|apply q1_)|exact HB.out)) hb);clear HB;have HO562:=n0_;have HB:=n1_;clear n0_ n1_;(try clear hb);(try clear hb2);(try clear hk);(try clear hi);(try clear ho0))|((with_reducible refine gate_dst (N:=3) rfl ?_);refine box_event ?hg (N:=3) ?hd (cs:=#[.slice none 0 0]) (t:=24) ?hr ?_;(case hd=>rfl);(case hg=>rfl);(case hr=>first|(go_simp;done)|(go_simp;rfl));intro gb564 hg w7 hbox hb;have n0_:=Zz.mk (Kd.R_below (by (with_reducible repeat first|apply Kd.R_alloc|apply Kd.R_drewN|apply Kd.R_drew);exact HO562.out) hb);have n1_:=Zz.mk (qP (by repeat (first|(with_reducible first|exact HB.out|apply qA|apply qN|apply q1_)|exact HB.out)) hb);have n2_:=Zz.mk (hbox);have n3_:=Zz.mk ((by rw [hg];exact (qZ (by repeat (first|(with_reducible first|exact HB.out|apply qA|apply qN|apply q1_)|exact HB.out))):w.heap.size≤gb564));have n4_:=Zz.mk ((by rw [hg];exact (qZ (by repeat (first|(with_reducible first|exact HB.out|apply qA|apply qN|apply q1_)|exact HB.out))):w.heap.size≤gb564));clear HO562;clear HB;have HO562:=n0_;have HB:=n1_;have BK564:=n2_;have GW564:=n3_;have GE564:=n4_;clear n0_ n1_ n2_ n3_ n4_;clear hb hbox hg;obtain ⟨Ao8,co8,eo8⟩:=Kd.R_slice HO562.out;subst eo8;have hcz9_0:w7.cell? ⟨gb564,0,none⟩=some (.slice none 0 0):=(bC BK564.out 0).trans rfl;have hfz9_0:=bF BK564.out 0)|((with_reducible refine gate_callee (f:=6) rfl ?_);refine goesL_ (some 21) rfl rfl Try.func6 (by kernel_rfl) rfl #[.string a0] rfl (by (try simp only [List.map_toArray,List.map_cons,List.map_nil]);first|done|rfl|(simp only [List.length_drop,List.length_take];rfl)) ?_;(with_reducible refine (impl_ParseTrie.calls k a0 t565 t568 _ A4.out).mono ?_);rintro e w10 ⟨v566,rfl,ho0,hb⟩;refine ⟨_,rfl,?_⟩;have n0_:=Zz.mk (Kd.R_elder' (by (with_reducible repeat first|apply Kd.R_alloc|apply Kd.R_drewN|apply Kd.R_drew);exact (Kd.R_mono (R_same_ (Kd.R_far (p:=⟨gb564,0,none⟩) (Kd.R_types HO562.out BK564.out (by decide)) (fun _ hk=>hk.2) (.slice Ao8 t560.length co8)) rfl) (fun _ h_=>h_.1))) (Kd.R_base ho0) hb);have n1_:=Zz.mk (Kd.R_lower (Kd.R_new' ho0 (Kd.R_lt (by (with_reducible repeat first|apply Kd.R_alloc|apply Kd.R_drewN|apply Kd.R_drew);exact (Kd.R_mono (R_same_ (Kd.R_far (p:=⟨gb564,0,none⟩) (Kd.R_types HO562.out BK564.out (by decide)) (fun _ hk=>hk.2) (.slice Ao8 t560.length co8)) rfl) (fun _ h_=>h_.1))))) (qZ (by repeat (first|(with_reducible first|exact HB.out|apply qA|apply qN|apply q1_|refine qS ?_ GE564.out)|exact HB.out))));have n2_:=Zz.mk (bB (g:=gb564) (o:=.cells #[.slice Ao8 t560.length co8] 24 (0,0)) (by (with_reducible repeat first|apply bN|apply bD|apply bA);refine blk_put (cs:=#[.slice none 0 0]) ?_ 0 _ rfl;(with_reducible repeat first|apply bN|apply bD|apply bA);exact BK564.out) hb);have n3_:=Zz.mk (qP (by repeat (first|(with_reducible first|exact HB.out|apply qA|apply qN|apply q1_|refine qS ?_ GE564.out)|exact HB.out)) hb);clear HO562;clear BK564;clear HB;have HO562:=n0_;have HO567:=n1_;have BK564:=n2_;have HB:=n3_;clear n0_ n1_ n2_ n3_;(try clear hb);(try clear hb2);(try clear hk);(try clear hi);(try clear ho0))|((with_reducible refine gate_dst (N:=5) rfl ?_);refine box_event ?hg (N:=5) ?hd (cs:=#[.slice none 0 0]) (t:=24) ?hr ?_;(case hd=>rfl);(case hg=>rfl);(case hr=>first|(go_simp;done)|(go_simp;rfl));intro gb569 hg w11 hbox hb;have n0_:=Zz.mk (Kd.R_below (by (with_reducible repeat first|apply Kd.R_alloc|apply Kd.R_drewN|apply Kd.R_drew);exact HO562.out) hb);have n1_:=Zz.mk (Kd.R_below (by (with_reducible repeat first|apply Kd.R_alloc|apply Kd.R_drewN|apply Kd.R_drew);exact HO567.out) hb);have n2_:=Zz.mk (bB (g:=gb564) (o:=.cells #[.slice Ao8 t560.length co8] 24 (0,0)) (by (with_reducible repeat first|apply bN|apply bD|apply bA);exact BK564.out) hb);have n3_:=Zz.mk (qP (by repeat (first|(with_reducible first|exact HB.out|apply qA|apply qN|apply q1_|refine qS ?_ GE564.out)|exact HB.out)) hb);have n4_:=Zz.mk (hbox);have n5_:=Zz.mk ((by rw [hg];exact (qZ (by repeat (first|(with_reducible first|exact HB.out|apply qA|apply qN|apply q1_|refine qS ?_ GE564.out)|exact HB.out))):w.heap.size≤gb569));have n6_:=Zz.mk ((by rw [hg];exact (qZ (by repeat (first|(with_reducible first|exact HB.out|apply qA|apply qN|apply q1_|refine qS ?_ GE564.out)|exact HB.out))):w.heap.size≤gb569));have n7_:=Zz.mk ((by rw [hg];exact Nat.ne_of_lt (blk_lt (g:=gb564) (o:=.cells #[.slice Ao8 t560.length co8] 24 (0,0)) (by (with_reducible repeat first|apply bN|apply bD|apply bA);exact BK564.out)):gb564 ≠ gb569));have n8_:=Zz.mk ((by rw [hg];exact Nat.ne_of_gt (blk_lt (g:=gb564) (o:=.cells #[.slice Ao8 t560.length co8] 24 (0,0)) (by (with_reducible repeat first|apply bN|apply bD|apply bA);exact BK564.out)):gb569 ≠ gb564));clear HO562;clear HO567;clear BK564;clear HB;have HO562:=n0_;have HO567:=n1_;have BK564:=n2_;have HB:=n3_;have BK569:=n4_;have GW569:=n5_;have GE569:=n6_;have NB564_569:=n7_;have NB569_564:=n8_;clear n0_ n1_ n2_ n3_ n4_ n5_ n6_ n7_ n8_;clear hb hbox hg;obtain ⟨Ao12,co12,eo12⟩:=Kd.R_slice HO567.out;subst eo12;have hnb13:=NB569_564.out;have hnc13:=NB564_569.out;have hcz14_0:w11.cell? ⟨gb569,0,none⟩=some (.slice none 0 0):=(bC BK569.out 0).trans rfl;have hfz14_0:=bF BK569.out 0))
    (try simp only [Act.put,List.setIfInBounds_toArray,List.set_cons_zero,List.set_cons_succ])
    go_cut [32] (fun v32 wc=>∃ (kq:Nat) (x32_4:Bool),v32=.bool x32_4∧Zz (laws_FnExactParseTrie.j0 kq a0 t563 x32_4 t560 t565=some true)∧Zz (kq≤k)∧Zz (Kd.R k62 62 wc w.heap.size (fun k_=>some k_ ≠ ((.slice Ao12 t565.length co12):Value).ownBlock) (.slice Ao8 t560.length co8) t560)∧Zz (Kd.R k62 62 wc w.heap.size (fun k_=>some k_ ≠ ((.slice Ao8 t560.length co8):Value).ownBlock) (.slice Ao12 t565.length co12) t565)∧Zz (wc.heap[gb564]?=some (.cells #[(.slice Ao8 t560.length co8)] 24 (0,0)))∧Zz (wc.heap[gb569]?=some (.cells #[(.slice Ao12 t565.length co12)] 24 (0,0)))∧Zz (Below w.heap.size w wc))
    case first =>
      have H:=HC5.out
      clear HC5
      replace H:=Option.bind_eq_some_iff.mp H
      obtain ⟨t570,A150,H⟩:=H
      replace H:(if t570=true then (laws_FnExactParseTrie.j0 k a0 t563 (t568 != t563) t560 t565) else (laws_FnExactParseTrie.j0 k a0 t563 true t560 t565))=some true:=H
      have A15:=Zz.mk A150
      clear A150
      by_cases c16:t570=true
      · subst c16
        have H1:(laws_FnExactParseTrie.j0 k a0 t563 (t568 != t563) t560 t565)=some true:=by rw [if_pos rfl] at H;exact H
        clear H
        have H:=H1
        clear H1
        have H':=Zz.mk H
        clear H
        have hnb17:=NB569_564.out
        have hnc17:=NB564_569.out
        have hcz18_0:w11.cell? ⟨gb569,0,none⟩=some (.slice none 0 0):=(bC BK569.out 0).trans rfl
        have hfz18_0:=bF BK569.out 0
        have hcz19_0:w11.cell? ⟨gb564,0,none⟩=some (.slice Ao8 t560.length co8):=(bC BK564.out 0).trans rfl
        have hfz19_0:=bF BK564.out 0
        go_wp2_with (first|((with_reducible refine gate_callee (f:=7) rfl ?_);refine goesL_ (some 26) rfl rfl Try.func7 (by kernel_rfl) rfl #[.agg #[.slice Ao12 t565.length co12],.agg #[.slice Ao8 t560.length co8]] rfl (by (try simp only [List.map_toArray,List.map_cons,List.map_nil]);first|done|rfl|(simp only [List.length_drop,List.length_take];rfl)) ?_;(with_reducible refine (laws_eqTrie.calls k _ _ t565 _ _ t560 true _ ?side1 ?side2 ?side3 ?side4 A15.out).mono ?_);(case side1=>refine (Kd.R_reads' (e:=62) (base:=w.heap.size) (ok:=fun k_=>(True∧some k_ ≠ (.slice Ao8 t560.length co8:Value).ownBlock)) (n:=t565.length) (c:=co12) ?_).2.2;exact (by (with_reducible repeat first|apply Kd.R_alloc|apply Kd.R_drewN|apply Kd.R_drew);exact (Kd.R_mono (R_same_ (Kd.R_far (p:=⟨gb569,0,none⟩) (Kd.R_types HO567.out BK569.out (by decide)) (fun _ hk=>hk.2) (.slice Ao12 t565.length co12)) rfl) (fun _ h_=>h_.1))));(case side2=>exact (Kd.R_reads' HO567.out).2.1);(case side3=>refine (Kd.R_reads' (e:=62) (base:=w.heap.size) (ok:=fun k_=>(True∧some k_ ≠ (.slice Ao12 t565.length co12:Value).ownBlock)) (n:=t560.length) (c:=co8) ?_).2.2;exact (by (with_reducible repeat first|apply Kd.R_alloc|apply Kd.R_drewN|apply Kd.R_drew);exact (Kd.R_mono (R_same_ (Kd.R_far (p:=⟨gb569,0,none⟩) (Kd.R_types HO562.out BK569.out (by decide)) (fun _ hk=>hk.2) (.slice Ao12 t565.length co12)) rfl) (fun _ h_=>h_.1))));(case side4=>exact (Kd.R_reads' HO562.out).2.1);rintro e w20 ⟨rfl,hb⟩;refine ⟨_,rfl,?_⟩;have n0_:=Zz.mk (Kd.R_below (by (with_reducible repeat first|apply Kd.R_alloc|apply Kd.R_drewN|apply Kd.R_drew);exact (Kd.R_mono (R_same_ (Kd.R_far (p:=⟨gb569,0,none⟩) (Kd.R_types HO562.out BK569.out (by decide)) (fun _ hk=>hk.2) (.slice Ao12 t565.length co12)) rfl) (fun _ h_=>h_.1))) hb);have n1_:=Zz.mk (Kd.R_below (by (with_reducible repeat first|apply Kd.R_alloc|apply Kd.R_drewN|apply Kd.R_drew);exact (Kd.R_mono (R_same_ (Kd.R_far (p:=⟨gb569,0,none⟩) (Kd.R_types HO567.out BK569.out (by decide)) (fun _ hk=>hk.2) (.slice Ao12 t565.length co12)) rfl) (fun _ h_=>h_.1))) hb);have n2_:=Zz.mk (bB (g:=gb564) (o:=.cells #[.slice Ao8 t560.length co8] 24 (0,0)) (by (with_reducible repeat first|apply bN|apply bD|apply bA);refine blk_far ?_ NB564_569.out _;(with_reducible repeat first|apply bN|apply bD|apply bA);exact BK564.out) hb);have n3_:=Zz.mk (bB (g:=gb569) (o:=.cells #[.slice Ao12 t565.length co12] 24 (0,0)) (by (with_reducible repeat first|apply bN|apply bD|apply bA);refine blk_put (cs:=#[.slice none 0 0]) ?_ 0 _ rfl;(with_reducible repeat first|apply bN|apply bD|apply bA);exact BK569.out) hb);have n4_:=Zz.mk (qP (by repeat (first|(with_reducible first|exact HB.out|apply qA|apply qN|apply q1_|refine qS ?_ GE564.out|refine qS ?_ GE569.out)|exact HB.out)) hb);clear HO562;clear HO567;clear BK564;clear BK569;clear HB;have HO562:=n0_;have HO567:=n1_;have BK564:=n2_;have BK569:=n3_;have HB:=n4_;clear n0_ n1_ n2_ n3_ n4_;(try clear hb);(try clear hb2);(try clear hk);(try clear hi)))
        go_meet
        case rel=>exact ⟨_,((t568 != t563)),(by first|rfl|(simp;done)|(simp [*];done)),H',⟨by first|omega|exact Nat.le_refl _⟩,⟨by (with_reducible repeat first|apply Kd.R_alloc|apply Kd.R_drewN|apply Kd.R_drew);exact Kd.R_mono HO562.out (fun _ hk=>hk.2)⟩,⟨by (with_reducible repeat first|apply Kd.R_alloc|apply Kd.R_drewN|apply Kd.R_drew);exact Kd.R_mono HO567.out (fun _ hk=>hk.2)⟩,⟨by (with_reducible repeat first|apply bN|apply bD|apply bA);exact BK564.out⟩,⟨by (with_reducible repeat first|apply bN|apply bD|apply bA);exact BK569.out⟩,⟨by repeat (first|(with_reducible first|exact HB.out|apply qA|apply qN|apply q1_|refine qS ?_ GE564.out|refine qS ?_ GE569.out)|exact HB.out)⟩⟩
      · replace c16:=Bool.eq_false_iff.mpr c16
        subst c16
        have H1:(laws_FnExactParseTrie.j0 k a0 t563 true t560 t565)=some true:=by rw [if_neg (show ¬ (false=true) by decide)] at H;exact H
        exact absurd H1 (by cases k <;> simp [laws_FnExactParseTrie.j0])
    case rest =>
      clear HC5
      try clear c1
      try clear c2
      try clear c2b0
      try clear c2b1
      try clear p2
      try clear c3
      try clear c5
      try clear c6
      try clear c7
      try clear c13
      try clear c16
      try clear c17
      try clear c21
      try clear hcz14_0
      try clear hcz18_0
      try clear hcz19_0
      try clear hcz22_0
      try clear hcz23_0
      try clear hcz9_0
      try clear hfz14_0
      try clear hfz18_0
      try clear hfz19_0
      try clear hfz22_0
      try clear hfz23_0
      try clear hfz9_0
      obtain ⟨kq,x32_4,rfl,HA,HJ4,HO_565000,HO_570000,BK564,BK569,HB⟩:=hcut
      cases kq with
      | zero=>exact absurd HA.out (by simp [laws_FnExactParseTrie.j0])
      | succ kj4 =>
        have H:=HA.out
        clear HA
        simp only [laws_FnExactParseTrie.j0] at H
        by_cases c25:x32_4=true
        · subst c25
          have H1:(some false)=some true:=by rw [if_pos rfl] at H;exact H
          exact absurd H1 (by simp)
        · replace c25:=Bool.eq_false_iff.mpr c25
          subst c25
          have H1:((laws_markTrie.f kj4 t565 1).bind fun bt571=>((laws_heldTrie.f kj4 bt571.2 1).bind fun t573=>(if t573<0 then (some false) else (if t573=bt571.1 then ((impl_ParseTrie.f kj4 a0).bind fun bt574=>((laws_eqTrie.f kj4 bt574.1 t560).bind fun t579=>(if t579=true then (laws_FnExactParseTrie.j1 kj4 bt571.1 (bt574.2 != t563) bt571.2) else (laws_FnExactParseTrie.j1 kj4 bt571.1 true bt571.2)))) else (some false)))))=some true:=by rw [if_neg (show ¬ (false=true) by decide)] at H;exact H
          clear H
          have H:=H1
          clear H1
          replace H:=Option.bind_eq_some_iff.mp H
          obtain ⟨⟨t571,t572⟩,A260,H⟩:=H
          replace H:((laws_heldTrie.f kj4 t572 1).bind fun t573=>(if t573<0 then (some false) else (if t573=t571 then ((impl_ParseTrie.f kj4 a0).bind fun bt574=>((laws_eqTrie.f kj4 bt574.1 t560).bind fun t579=>(if t579=true then (laws_FnExactParseTrie.j1 kj4 t571 (bt574.2 != t563) t572) else (laws_FnExactParseTrie.j1 kj4 t571 true t572)))) else (some false))))=some true:=H
          have A26:=Zz.mk A260
          clear A260
          replace H:=Option.bind_eq_some_iff.mp H
          obtain ⟨t573,A270,H⟩:=H
          replace H:(if t573<0 then (some false) else (if t573=t571 then ((impl_ParseTrie.f kj4 a0).bind fun bt574=>((laws_eqTrie.f kj4 bt574.1 t560).bind fun t579=>(if t579=true then (laws_FnExactParseTrie.j1 kj4 t571 (bt574.2 != t563) t572) else (laws_FnExactParseTrie.j1 kj4 t571 true t572)))) else (some false)))=some true:=H
          have A27:=Zz.mk A270
          clear A270
          by_cases c28:t573<0
          · rw [if_pos c28] at H
            exact absurd H (by simp)
          · rw [if_neg c28] at H
            have c28b0:decide (t573<0)=false:=decide_eq_false c28
            clear c28
            by_cases c34:t573=t571
            · rw [if_pos c34] at H
              have c34b0:(t573 == t571)=true:=beq_iff_eq.mpr c34
              have c34b1:(t573 != t571)=false:=bne_eq_false_iff_eq.mpr c34
              clear c34
              replace H:=Option.bind_eq_some_iff.mp H
              obtain ⟨⟨t574,t577⟩,A350,H⟩:=H
              replace H:((laws_eqTrie.f kj4 t574 t560).bind fun t579=>(if t579=true then (laws_FnExactParseTrie.j1 kj4 t571 (t577 != t563) t572) else (laws_FnExactParseTrie.j1 kj4 t571 true t572)))=some true:=H
              have A35:=Zz.mk A350
              clear A350
              have HC36:=Zz.mk H
              clear H
              have hnb37:=NB569_564.out
              have hnc37:=NB564_569.out
              have hcz38_0:wc.cell? ⟨gb569,0,none⟩=some (.slice Ao12 t565.length co12):=(bC BK569.out 0).trans rfl
              have hfz38_0:=bF BK569.out 0
              go_upto_region 16 with (first|((with_reducible refine gate_callee (f:=8) rfl ?_);refine goesL_ (some 35) rfl rfl Try.func8 (by kernel_rfl) rfl #[.agg #[.slice Ao12 t565.length co12],.int .i64 1] rfl (by (try simp only [List.map_toArray,List.map_cons,List.map_nil]);first|done|rfl|(simp only [List.length_drop,List.length_take];rfl)) ?_;(with_reducible refine (laws_markTrie.calls kj4 (fun k_=>some k_=(.slice Ao12 t565.length co12:Value).ownBlock) (.slice Ao12 t565.length co12) t565 1 t571 t572 w _ ?side1 ?side2 A26.out).mono ?_);(case side1=>repeat (first|(with_reducible first|exact HB.out|apply qA|apply qN|apply q1_|refine qS ?_ GE564.out|refine qS ?_ GE569.out)|exact HB.out));(case side2=>exact Kd.R_tight rfl HO_570000.out);rintro e w39 ⟨rfl,hy0,hb,hkp⟩;refine ⟨_,rfl,?_⟩;have n0_:=Zz.mk (Kd.R_mono (ok':=fun k_=>some k_ ≠ (.slice Ao12 t565.length co12:Value).ownBlock) (Kd.R_keptB (HO_565000.out) hkp (fun k_ hk_ hs_=>(hk_) hs_)) (fun k_ hk_=>hk_.1));have n1_:=Zz.mk (Kd.R_reok rfl hy0 (fun k_ e_=>HO_570000.out.1 k_ e_));have n2_:=Zz.mk (blk_kept (by (with_reducible repeat first|apply bN|apply bD|apply bA);exact BK564.out) hkp (fun hs_=>(fun e_=>(Kd.R_ne HO_570000.out BK564.out (by decide)) e_) hs_));have n3_:=Zz.mk (blk_kept (by (with_reducible repeat first|apply bN|apply bD|apply bA);exact BK569.out) hkp (fun hs_=>(fun e_=>(Kd.R_ne HO_570000.out BK569.out (by decide)) e_) hs_));have n4_:=Zz.mk (hb);clear HO_565000;clear HO_570000;clear BK564;clear BK569;clear HB;have HO_565000:=n0_;have HO_570000:=n1_;have BK564:=n2_;have BK569:=n3_;have HB:=n4_;clear n0_ n1_ n2_ n3_ n4_;(try clear hb);(try clear hkp);(try clear hy0);have hcz40_0:w39.cell? ⟨gb569,0,none⟩=some (.slice Ao12 t565.length co12):=(bC BK569.out 0).trans rfl;have hfz40_0:=bF BK569.out 0)|((with_reducible refine gate_callee (f:=9) rfl ?_);refine goesL_ (some 38) rfl rfl Try.func9 (by kernel_rfl) rfl #[.agg #[.slice Ao12 t572.length co12],.int .i64 1] rfl (by (try simp only [List.map_toArray,List.map_cons,List.map_nil]);first|done|(rw [show t572.length=t565.length from (Kd.R_reads' HO_570000.out).1.symm] <;> rfl)|rfl|(simp only [List.length_drop,List.length_take];rfl)) ?_;(with_reducible refine (laws_heldTrie.calls kj4 _ _ t572 1 t573 _ ?side1 ?side2 A27.out).mono ?_);(case side1=>repeat (first|exact (Kd.R_reads' HO_570000.out).2.2|(with_reducible refine Kd.C_alloc ?_ _)|(with_reducible refine Kd.C_drewN ?_ _)|(with_reducible refine Kd.C_drew ?_)));(case side2=>rw [show t572.length=t565.length from (Kd.R_reads' HO_570000.out).1.symm];exact (Kd.R_reads' HO_570000.out).2.1);rintro e w41 ⟨rfl,hb⟩;refine ⟨_,rfl,?_⟩;have n0_:=Zz.mk (Kd.R_below (by (with_reducible repeat first|apply Kd.R_alloc|apply Kd.R_drewN|apply Kd.R_drew);exact HO_565000.out) hb);have n1_:=Zz.mk (Kd.R_below (by (with_reducible repeat first|apply Kd.R_alloc|apply Kd.R_drewN|apply Kd.R_drew);exact HO_570000.out) hb);have n2_:=Zz.mk (bB (g:=gb564) (o:=.cells #[.slice Ao8 t560.length co8] 24 (0,0)) (by (with_reducible repeat first|apply bN|apply bD|apply bA);exact BK564.out) hb);have n3_:=Zz.mk (bB (g:=gb569) (o:=.cells #[.slice Ao12 t565.length co12] 24 (0,0)) (by (with_reducible repeat first|apply bN|apply bD|apply bA);exact BK569.out) hb);have n4_:=Zz.mk (qP (by repeat (first|(with_reducible first|exact HB.out|apply qA|apply qN|apply q1_|refine qS ?_ GE564.out|refine qS ?_ GE569.out)|exact HB.out)) hb);clear HO_565000;clear HO_570000;clear BK564;clear BK569;clear HB;have HO_565000:=n0_;have HO_570000:=n1_;have BK564:=n2_;have BK569:=n3_;have HB:=n4_;clear n0_ n1_ n2_ n3_ n4_;(try clear hb);(try clear hb2);(try clear hk);(try clear hi))|((with_reducible refine gate_callee (f:=6) rfl ?_);refine goesL_ (some 46) rfl rfl Try.func6 (by kernel_rfl) rfl #[.string a0] rfl (by (try simp only [List.map_toArray,List.map_cons,List.map_nil]);first|done|rfl|(simp only [List.length_drop,List.length_take];rfl)) ?_;(with_reducible refine (impl_ParseTrie.calls kj4 a0 t574 t577 _ A35.out).mono ?_);rintro e w42 ⟨v575,rfl,ho0,hb⟩;refine ⟨_,rfl,?_⟩;have n0_:=Zz.mk (Kd.R_elder' (by (with_reducible repeat first|apply Kd.R_alloc|apply Kd.R_drewN|apply Kd.R_drew);exact HO_565000.out) (Kd.R_base ho0) hb);have n1_:=Zz.mk (Kd.R_elder' (by (with_reducible repeat first|apply Kd.R_alloc|apply Kd.R_drewN|apply Kd.R_drew);exact HO_570000.out) (Kd.R_base ho0) hb);have n2_:=Zz.mk (Kd.R_lower (Kd.R_new' (Kd.R_new' ho0 (Kd.R_lt (by (with_reducible repeat first|apply Kd.R_alloc|apply Kd.R_drewN|apply Kd.R_drew);exact HO_565000.out))) (Kd.R_lt (by (with_reducible repeat first|apply Kd.R_alloc|apply Kd.R_drewN|apply Kd.R_drew);exact HO_570000.out))) (qZ (by repeat (first|(with_reducible first|exact HB.out|apply qA|apply qN|apply q1_|refine qS ?_ GE564.out|refine qS ?_ GE569.out)|exact HB.out))));have n3_:=Zz.mk (bB (g:=gb564) (o:=.cells #[.slice Ao8 t560.length co8] 24 (0,0)) (by (with_reducible repeat first|apply bN|apply bD|apply bA);exact BK564.out) hb);have n4_:=Zz.mk (bB (g:=gb569) (o:=.cells #[.slice Ao12 t565.length co12] 24 (0,0)) (by (with_reducible repeat first|apply bN|apply bD|apply bA);exact BK569.out) hb);have n5_:=Zz.mk (qP (by repeat (first|(with_reducible first|exact HB.out|apply qA|apply qN|apply q1_|refine qS ?_ GE564.out|refine qS ?_ GE569.out)|exact HB.out)) hb);clear HO_565000;clear HO_570000;clear BK564;clear BK569;clear HB;have HO_565000:=n0_;have HO_570000:=n1_;have HO576:=n2_;have BK564:=n3_;have BK569:=n4_;have HB:=n5_;clear n0_ n1_ n2_ n3_ n4_ n5_;(try clear hb);(try clear hb2);(try clear hk);(try clear hi);(try clear ho0))|((with_reducible refine gate_dst (N:=9) rfl ?_);refine box_event ?hg (N:=9) ?hd (cs:=#[.slice none 0 0]) (t:=24) ?hr ?_;(case hd=>rfl);(case hg=>rfl);(case hr=>first|(go_simp;done)|(go_simp;rfl));intro gb578 hg w43 hbox hb;have n0_:=Zz.mk (Kd.R_below (by (with_reducible repeat first|apply Kd.R_alloc|apply Kd.R_drewN|apply Kd.R_drew);exact HO_565000.out) hb);have n1_:=Zz.mk (Kd.R_below (by (with_reducible repeat first|apply Kd.R_alloc|apply Kd.R_drewN|apply Kd.R_drew);exact HO_570000.out) hb);have n2_:=Zz.mk (Kd.R_below (by (with_reducible repeat first|apply Kd.R_alloc|apply Kd.R_drewN|apply Kd.R_drew);exact HO576.out) hb);have n3_:=Zz.mk (bB (g:=gb564) (o:=.cells #[.slice Ao8 t560.length co8] 24 (0,0)) (by (with_reducible repeat first|apply bN|apply bD|apply bA);exact BK564.out) hb);have n4_:=Zz.mk (bB (g:=gb569) (o:=.cells #[.slice Ao12 t565.length co12] 24 (0,0)) (by (with_reducible repeat first|apply bN|apply bD|apply bA);exact BK569.out) hb);have n5_:=Zz.mk (qP (by repeat (first|(with_reducible first|exact HB.out|apply qA|apply qN|apply q1_|refine qS ?_ GE564.out|refine qS ?_ GE569.out)|exact HB.out)) hb);have n6_:=Zz.mk (hbox);have n7_:=Zz.mk ((by rw [hg];exact (qZ (by repeat (first|(with_reducible first|exact HB.out|apply qA|apply qN|apply q1_|refine qS ?_ GE564.out|refine qS ?_ GE569.out)|exact HB.out))):w.heap.size≤gb578));have n8_:=Zz.mk ((by rw [hg];exact (qZ (by repeat (first|(with_reducible first|exact HB.out|apply qA|apply qN|apply q1_|refine qS ?_ GE564.out|refine qS ?_ GE569.out)|exact HB.out))):w.heap.size≤gb578));have n9_:=Zz.mk ((by rw [hg];exact Nat.ne_of_lt (blk_lt (g:=gb564) (o:=.cells #[.slice Ao8 t560.length co8] 24 (0,0)) (by (with_reducible repeat first|apply bN|apply bD|apply bA);exact BK564.out)):gb564 ≠ gb578));have n10_:=Zz.mk ((by rw [hg];exact Nat.ne_of_gt (blk_lt (g:=gb564) (o:=.cells #[.slice Ao8 t560.length co8] 24 (0,0)) (by (with_reducible repeat first|apply bN|apply bD|apply bA);exact BK564.out)):gb578 ≠ gb564));have n11_:=Zz.mk ((by rw [hg];exact Nat.ne_of_lt (blk_lt (g:=gb569) (o:=.cells #[.slice Ao12 t565.length co12] 24 (0,0)) (by (with_reducible repeat first|apply bN|apply bD|apply bA);exact BK569.out)):gb569 ≠ gb578));have n12_:=Zz.mk ((by rw [hg];exact Nat.ne_of_gt (blk_lt (g:=gb569) (o:=.cells #[.slice Ao12 t565.length co12] 24 (0,0)) (by (with_reducible repeat first|apply bN|apply bD|apply bA);exact BK569.out)):gb578 ≠ gb569));clear HO_565000;clear HO_570000;clear HO576;clear BK564;clear BK569;clear HB;have HO_565000:=n0_;have HO_570000:=n1_;have HO576:=n2_;have BK564:=n3_;have BK569:=n4_;have HB:=n5_;have BK578:=n6_;have GW578:=n7_;have GE578:=n8_;have NB564_578:=n9_;have NB578_564:=n10_;have NB569_578:=n11_;have NB578_569:=n12_;clear n0_ n1_ n2_ n3_ n4_ n5_ n6_ n7_ n8_ n9_ n10_ n11_ n12_;clear hb hbox hg;obtain ⟨Ao44,co44,eo44⟩:=Kd.R_slice HO576.out;subst eo44;have hnb45:=NB578_564.out;have hnc45:=NB564_578.out;have hnb46:=NB578_569.out;have hnc46:=NB569_578.out;have hcz47_0:w43.cell? ⟨gb578,0,none⟩=some (.slice none 0 0):=(bC BK578.out 0).trans rfl;have hfz47_0:=bF BK578.out 0))
              (try simp only [Act.put,List.setIfInBounds_toArray,List.set_cons_zero,List.set_cons_succ])
              go_cut [57] (fun v57 wc=>∃ (kq:Nat) (x57_35:Bool),v57=.bool x57_35∧Zz (laws_FnExactParseTrie.j1 kq t571 x57_35 t572=some true)∧Zz (kq≤kj4)∧Zz (Kd.R k62 62 wc w.heap.size (fun k_=>some k_ ≠ ((.slice Ao12 t565.length co12):Value).ownBlock∧some k_ ≠ ((.slice Ao44 t574.length co44):Value).ownBlock) (.slice Ao8 t560.length co8) t560)∧Zz (Kd.R k62 62 wc w.heap.size (fun k_=>some k_ ≠ ((.slice Ao8 t560.length co8):Value).ownBlock∧some k_ ≠ ((.slice Ao44 t574.length co44):Value).ownBlock) (.slice Ao12 t565.length co12) t572)∧Zz (Kd.R k62 62 wc w.heap.size (fun k_=>some k_ ≠ ((.slice Ao8 t560.length co8):Value).ownBlock∧some k_ ≠ ((.slice Ao12 t565.length co12):Value).ownBlock) (.slice Ao44 t574.length co44) t574)∧Zz (wc.heap[gb564]?=some (.cells #[(.slice Ao8 t560.length co8)] 24 (0,0)))∧Zz (wc.heap[gb569]?=some (.cells #[(.slice Ao12 t565.length co12)] 24 (0,0)))∧Zz (wc.heap[gb578]?=some (.cells #[(.slice Ao44 t574.length co44)] 24 (0,0)))∧Zz (Below w.heap.size w wc))
              case first =>
                have H:=HC36.out
                clear HC36
                replace H:=Option.bind_eq_some_iff.mp H
                obtain ⟨t579,A480,H⟩:=H
                replace H:(if t579=true then (laws_FnExactParseTrie.j1 kj4 t571 (t577 != t563) t572) else (laws_FnExactParseTrie.j1 kj4 t571 true t572))=some true:=H
                have A48:=Zz.mk A480
                clear A480
                by_cases c49:t579=true
                · subst c49
                  have H1:(laws_FnExactParseTrie.j1 kj4 t571 (t577 != t563) t572)=some true:=by rw [if_pos rfl] at H;exact H
                  clear H
                  have H:=H1
                  clear H1
                  have H':=Zz.mk H
                  clear H
                  have hnb50:=NB578_564.out
                  have hnc50:=NB564_578.out
                  have hnb51:=NB578_569.out
                  have hnc51:=NB569_578.out
                  have hcz52_0:w43.cell? ⟨gb578,0,none⟩=some (.slice none 0 0):=(bC BK578.out 0).trans rfl
                  have hfz52_0:=bF BK578.out 0
                  have hnb53:=NB564_569.out
                  have hnc53:=NB569_564.out
                  have hcz54_0:w43.cell? ⟨gb564,0,none⟩=some (.slice Ao8 t560.length co8):=(bC BK564.out 0).trans rfl
                  have hfz54_0:=bF BK564.out 0
                  go_wp2_with (first|((with_reducible refine gate_callee (f:=7) rfl ?_);refine goesL_ (some 51) rfl rfl Try.func7 (by kernel_rfl) rfl #[.agg #[.slice Ao44 t574.length co44],.agg #[.slice Ao8 t560.length co8]] rfl (by (try simp only [List.map_toArray,List.map_cons,List.map_nil]);first|done|rfl|(simp only [List.length_drop,List.length_take];rfl)) ?_;(with_reducible refine (laws_eqTrie.calls kj4 _ _ t574 _ _ t560 true _ ?side1 ?side2 ?side3 ?side4 A48.out).mono ?_);(case side1=>refine (Kd.R_reads' (e:=62) (base:=w.heap.size) (ok:=fun k_=>((True∧some k_ ≠ (.slice Ao8 t560.length co8:Value).ownBlock)∧some k_ ≠ (.slice Ao12 t565.length co12:Value).ownBlock)) (n:=t574.length) (c:=co44) ?_).2.2;exact (by (with_reducible repeat first|apply Kd.R_alloc|apply Kd.R_drewN|apply Kd.R_drew);exact (Kd.R_mono (R_same_ (Kd.R_far (p:=⟨gb578,0,none⟩) (Kd.R_types HO576.out BK578.out (by decide)) (fun _ hk=>hk.2) (.slice Ao44 t574.length co44)) rfl) (fun _ h_=>h_.1))));(case side2=>exact (Kd.R_reads' HO576.out).2.1);(case side3=>refine (Kd.R_reads' (e:=62) (base:=w.heap.size) (ok:=fun k_=>(some k_ ≠ (.slice Ao12 t565.length co12:Value).ownBlock∧some k_ ≠ (.slice Ao44 t574.length co44:Value).ownBlock)) (n:=t560.length) (c:=co8) ?_).2.2;exact (by (with_reducible repeat first|apply Kd.R_alloc|apply Kd.R_drewN|apply Kd.R_drew);exact (Kd.R_mono (R_same_ (Kd.R_far (p:=⟨gb578,0,none⟩) (Kd.R_types HO_565000.out BK578.out (by decide)) (fun _ hk=>hk.2) (.slice Ao44 t574.length co44)) rfl) (fun _ h_=>h_.1))));(case side4=>exact (Kd.R_reads' HO_565000.out).2.1);rintro e w55 ⟨rfl,hb⟩;refine ⟨_,rfl,?_⟩;have n0_:=Zz.mk (Kd.R_below (by (with_reducible repeat first|apply Kd.R_alloc|apply Kd.R_drewN|apply Kd.R_drew);exact (Kd.R_mono (R_same_ (Kd.R_far (p:=⟨gb578,0,none⟩) (Kd.R_types HO_565000.out BK578.out (by decide)) (fun _ hk=>hk.2) (.slice Ao44 t574.length co44)) rfl) (fun _ h_=>h_.1))) hb);have n1_:=Zz.mk (Kd.R_below (by (with_reducible repeat first|apply Kd.R_alloc|apply Kd.R_drewN|apply Kd.R_drew);exact (Kd.R_mono (R_same_ (Kd.R_far (p:=⟨gb578,0,none⟩) (Kd.R_types HO_570000.out BK578.out (by decide)) (fun _ hk=>hk.2) (.slice Ao44 t574.length co44)) rfl) (fun _ h_=>h_.1))) hb);have n2_:=Zz.mk (Kd.R_below (by (with_reducible repeat first|apply Kd.R_alloc|apply Kd.R_drewN|apply Kd.R_drew);exact (Kd.R_mono (R_same_ (Kd.R_far (p:=⟨gb578,0,none⟩) (Kd.R_types HO576.out BK578.out (by decide)) (fun _ hk=>hk.2) (.slice Ao44 t574.length co44)) rfl) (fun _ h_=>h_.1))) hb);have n3_:=Zz.mk (bB (g:=gb564) (o:=.cells #[.slice Ao8 t560.length co8] 24 (0,0)) (by (with_reducible repeat first|apply bN|apply bD|apply bA);refine blk_far ?_ NB564_578.out _;(with_reducible repeat first|apply bN|apply bD|apply bA);exact BK564.out) hb);have n4_:=Zz.mk (bB (g:=gb569) (o:=.cells #[.slice Ao12 t565.length co12] 24 (0,0)) (by (with_reducible repeat first|apply bN|apply bD|apply bA);refine blk_far ?_ NB569_578.out _;(with_reducible repeat first|apply bN|apply bD|apply bA);exact BK569.out) hb);have n5_:=Zz.mk (bB (g:=gb578) (o:=.cells #[.slice Ao44 t574.length co44] 24 (0,0)) (by (with_reducible repeat first|apply bN|apply bD|apply bA);refine blk_put (cs:=#[.slice none 0 0]) ?_ 0 _ rfl;(with_reducible repeat first|apply bN|apply bD|apply bA);exact BK578.out) hb);have n6_:=Zz.mk (qP (by repeat (first|(with_reducible first|exact HB.out|apply qA|apply qN|apply q1_|refine qS ?_ GE564.out|refine qS ?_ GE569.out|refine qS ?_ GE578.out)|exact HB.out)) hb);clear HO_565000;clear HO_570000;clear HO576;clear BK564;clear BK569;clear BK578;clear HB;have HO_565000:=n0_;have HO_570000:=n1_;have HO576:=n2_;have BK564:=n3_;have BK569:=n4_;have BK578:=n5_;have HB:=n6_;clear n0_ n1_ n2_ n3_ n4_ n5_ n6_;(try clear hb);(try clear hb2);(try clear hk);(try clear hi)))
                  go_meet
                  case rel=>exact ⟨_,((t577 != t563)),(by first|rfl|(simp;done)|(simp [*];done)),H',⟨by have:=HJ4.out;first|omega|exact Nat.le_refl _⟩,⟨by (with_reducible repeat first|apply Kd.R_alloc|apply Kd.R_drewN|apply Kd.R_drew);exact HO_565000.out⟩,⟨by (with_reducible repeat first|apply Kd.R_alloc|apply Kd.R_drewN|apply Kd.R_drew);exact HO_570000.out⟩,⟨by (with_reducible repeat first|apply Kd.R_alloc|apply Kd.R_drewN|apply Kd.R_drew);exact Kd.R_mono HO576.out (fun _ hk=>⟨hk.1.2,hk.2⟩)⟩,⟨by (with_reducible repeat first|apply bN|apply bD|apply bA);exact BK564.out⟩,⟨by (with_reducible repeat first|apply bN|apply bD|apply bA);exact BK569.out⟩,⟨by (with_reducible repeat first|apply bN|apply bD|apply bA);exact BK578.out⟩,⟨by repeat (first|(with_reducible first|exact HB.out|apply qA|apply qN|apply q1_|refine qS ?_ GE564.out|refine qS ?_ GE569.out|refine qS ?_ GE578.out)|exact HB.out)⟩⟩
                · replace c49:=Bool.eq_false_iff.mpr c49
                  subst c49
                  have H1:(laws_FnExactParseTrie.j1 kj4 t571 true t572)=some true:=by rw [if_neg (show ¬ (false=true) by decide)] at H;exact H
                  exact absurd H1 (by cases kj4 <;> simp [laws_FnExactParseTrie.j1])
              case rest =>
                clear HC36
                try clear c1
                try clear c2
                try clear c2b0
                try clear c2b1
                try clear p2
                try clear c3
                try clear c4
                try clear c5
                try clear c6
                try clear c7
                try clear c8
                try clear c9
                try clear c13
                try clear c16
                try clear c17
                try clear c21
                try clear c25
                try clear c28
                try clear c28b0
                try clear c29
                try clear c34
                try clear c34b0
                try clear c34b1
                try clear c37
                try clear c45
                try clear c46
                try clear c49
                try clear c50
                try clear c51
                try clear c53
                try clear c56
                try clear c57
                try clear c59
                try clear hcz14_0
                try clear hcz18_0
                try clear hcz19_0
                try clear hcz22_0
                try clear hcz23_0
                try clear hcz30_0
                try clear hcz32_0
                try clear hcz38_0
                try clear hcz40_0
                try clear hcz47_0
                try clear hcz52_0
                try clear hcz54_0
                try clear hcz58_0
                try clear hcz60_0
                try clear hcz9_0
                try clear hfz14_0
                try clear hfz18_0
                try clear hfz19_0
                try clear hfz22_0
                try clear hfz23_0
                try clear hfz30_0
                try clear hfz32_0
                try clear hfz38_0
                try clear hfz40_0
                try clear hfz47_0
                try clear hfz52_0
                try clear hfz54_0
                try clear hfz58_0
                try clear hfz60_0
                try clear hfz9_0
                try clear p2
                obtain ⟨kq,x57_35,rfl,HA,HJ35,HO_565000,HO_570000,HO_579000,BK564,BK569,BK578,HB⟩:=hcut
                have hl570000_35:=(Kd.R_reads' HO_570000.out).1
                rw [hl570000_35] at HO_570000
                (try simp only [hl570000_35])
                (try simp only [hl570000_35] at BK564)
                (try simp only [hl570000_35] at BK569)
                (try simp only [hl570000_35] at BK578)
                (try simp only [hl570000_35] at HO_565000)
                (try simp only [hl570000_35] at HO_579000)
                cases kq with
                | zero=>exact absurd HA.out (by simp [laws_FnExactParseTrie.j1])
                | succ kj35 =>
                  have H:=HA.out
                  clear HA
                  simp only [laws_FnExactParseTrie.j1] at H
                  by_cases c62:x57_35=true
                  · subst c62
                    have H1:(some false)=some true:=by rw [if_pos rfl] at H;exact H
                    exact absurd H1 (by simp)
                  · replace c62:=Bool.eq_false_iff.mpr c62
                    subst c62
                    have H1:((laws_heldTrie.f kj35 t572 1).bind fun t580=>(if t580<0 then (some false) else (if t580=t571 then (some true) else (some false))))=some true:=by rw [if_neg (show ¬ (false=true) by decide)] at H;exact H
                    clear H
                    have H:=H1
                    clear H1
                    replace H:=Option.bind_eq_some_iff.mp H
                    obtain ⟨t580,A630,H⟩:=H
                    replace H:(if t580<0 then (some false) else (if t580=t571 then (some true) else (some false)))=some true:=H
                    have A63:=Zz.mk A630
                    clear A630
                    by_cases c64:t580<0
                    · rw [if_pos c64] at H
                      exact absurd H (by simp)
                    · rw [if_neg c64] at H
                      have c64b0:decide (t580<0)=false:=decide_eq_false c64
                      clear c64
                      by_cases c69:t580=t571
                      · rw [if_pos c69] at H
                        have c69b0:(t580 == t571)=true:=beq_iff_eq.mpr c69
                        have c69b1:(t580 != t571)=false:=bne_eq_false_iff_eq.mpr c69
                        clear c69
                        (first|(obtain rfl:=Option.some.inj H)|(have hH_:=Option.some.inj H;try simp only [hH_]))
                        have hnb70:=NB569_564.out
                        have hnc70:=NB564_569.out
                        have hnb71:=NB569_578.out
                        have hnc71:=NB578_569.out
                        have hcz72_0:wc.cell? ⟨gb569,0,none⟩=some (.slice Ao12 t572.length co12):=(bC BK569.out 0).trans rfl
                        have hfz72_0:=bF BK569.out 0
                        go_wp2_with (first|((with_reducible refine gate_callee (f:=9) rfl ?_);refine goesL_ (some 60) rfl rfl Try.func9 (by kernel_rfl) rfl #[.agg #[.slice Ao12 t572.length co12],.int .i64 1] rfl (by (try simp only [List.map_toArray,List.map_cons,List.map_nil]);first|done|rfl|(simp only [List.length_drop,List.length_take];rfl)) ?_;(with_reducible refine (laws_heldTrie.calls kj35 _ _ t572 1 t580 _ ?side1 ?side2 A63.out).mono ?_);(case side1=>repeat (first|exact (Kd.R_reads' HO_570000.out).2.2|(with_reducible refine Kd.C_alloc ?_ _)|(with_reducible refine Kd.C_drewN ?_ _)|(with_reducible refine Kd.C_drew ?_)));(case side2=>exact (Kd.R_reads' HO_570000.out).2.1);rintro e w73 ⟨rfl,hb⟩;refine ⟨_,rfl,?_⟩;have n0_:=Zz.mk (Kd.R_below (by (with_reducible repeat first|apply Kd.R_alloc|apply Kd.R_drewN|apply Kd.R_drew);exact HO_565000.out) hb);have n1_:=Zz.mk (Kd.R_below (by (with_reducible repeat first|apply Kd.R_alloc|apply Kd.R_drewN|apply Kd.R_drew);exact HO_570000.out) hb);have n2_:=Zz.mk (Kd.R_below (by (with_reducible repeat first|apply Kd.R_alloc|apply Kd.R_drewN|apply Kd.R_drew);exact HO_579000.out) hb);have n3_:=Zz.mk (bB (g:=gb564) (o:=.cells #[.slice Ao8 t560.length co8] 24 (0,0)) (by (with_reducible repeat first|apply bN|apply bD|apply bA);exact BK564.out) hb);have n4_:=Zz.mk (bB (g:=gb569) (o:=.cells #[.slice Ao12 t572.length co12] 24 (0,0)) (by (with_reducible repeat first|apply bN|apply bD|apply bA);exact BK569.out) hb);have n5_:=Zz.mk (bB (g:=gb578) (o:=.cells #[.slice Ao44 t574.length co44] 24 (0,0)) (by (with_reducible repeat first|apply bN|apply bD|apply bA);exact BK578.out) hb);have n6_:=Zz.mk (qP (by repeat (first|(with_reducible first|exact HB.out|apply qA|apply qN|apply q1_|refine qS ?_ GE564.out|refine qS ?_ GE569.out|refine qS ?_ GE578.out)|exact HB.out)) hb);clear HO_565000;clear HO_570000;clear HO_579000;clear BK564;clear BK569;clear BK578;clear HB;have HO_565000:=n0_;have HO_570000:=n1_;have HO_579000:=n2_;have BK564:=n3_;have BK569:=n4_;have BK578:=n5_;have HB:=n6_;clear n0_ n1_ n2_ n3_ n4_ n5_ n6_;(try clear hb);(try clear hb2);(try clear hk);(try clear hi)))
                        go_ret
                        exact ⟨by first|rfl|(simp [errW_none,errW_some] <;> rfl)|(simp [*,errW_none,errW_some] <;> rfl),by repeat (first|(with_reducible first|exact HB.out|apply qA|apply qN|apply q1_|refine qS ?_ GE564.out|refine qS ?_ GE569.out|refine qS ?_ GE578.out)|exact HB.out)⟩
                      · rw [if_neg c69] at H
                        exact absurd H (by simp)
            · rw [if_neg c34] at H
              exact absurd H (by simp)
end Go.Proofs.Ytghkbgmbbcaecaa.Q
namespace Go.Proofs.Ytghkbgmbbcaecaa.Q
open Go.RowKit Go.Proofs.YtghkbgmbbcaecaaW.PrintWords Go.Proofs.YtghkbgmbbcaecaaW.PrintLast
def Ev {α:Type} (F:Nat→Option α) (r:α):Prop:=∃ K,∀ k,K≤k→F k=some r
theorem Ev.pure {α:Type} (r:α):Ev (fun _=>some r) r:=⟨0,fun _ _=>rfl⟩
theorem Ev.const {α:Type} {x:Option α} {r:α} (h:x=some r):Ev (fun _=>x) r:=⟨0,fun _ _=>h⟩
theorem Ev.succ {α:Type} {F:Nat→Option α} {r:α} (h:Ev (fun k=>F (k+1)) r):Ev F r:=by
  obtain ⟨K,h⟩:=h
  refine ⟨K+1,fun k hk=>?_⟩
  obtain ⟨j,rfl⟩:∃ j,k=j+1:=⟨k - 1,by omega⟩
  exact h j (by omega)
theorem Ev.bind {α β:Type} {F:Nat→Option α} {G:Nat→α→Option β} {t:α} {r:β} (h:Ev F t) (h2:Ev (fun k=>G k t) r):Ev (fun k=>(F k).bind (G k)) r:=by
  obtain ⟨K,h⟩:=h
  obtain ⟨K2,h2⟩:=h2
  refine ⟨max K K2,fun k hk=>?_⟩
  simp only [h k (by omega),Option.bind_some]
  exact h2 k (by omega)
theorem Ev.bindc {α β:Type} {x:Option α} {G:Nat→α→Option β} {t:α} {r:β} (h:x=some t) (h2:Ev (fun k=>G k t) r):Ev (fun k=>x.bind (G k)) r:=Ev.bind (Ev.const h) h2
theorem Ev.pos {α:Type} {c:Prop} [Decidable c] {F G:Nat→Option α} {r:α} (hc:c) (h:Ev F r):Ev (fun k=>if c then F k else G k) r:=by simpa only [if_pos hc] using h
theorem Ev.neg {α:Type} {c:Prop} [Decidable c] {F G:Nat→Option α} {r:α} (hc:¬ c) (h:Ev G r):Ev (fun k=>if c then F k else G k) r:=by simpa only [if_neg hc] using h
theorem Ev.ex {α:Type} {F:Nat→Option α} {r:α} (h:Ev F r):∃ k,F k=some r:=by obtain ⟨K,h⟩:=h;exact ⟨K,h K (Nat.le_refl _)⟩
theorem wnext (i:Nat) (h:i≤4611686018427387904):wrap64 ((i:Int)+1)=((i+1:Nat):Int):=by unfold wrap64;omega
end Go.Proofs.Ytghkbgmbbcaecaa.Q
namespace Go.Proofs.Ytghkbgmbbcaecaa.Q
open Go.RowKit Go.Proofs.YtghkbgmbbcaecaaW.PrintWords Go.Proofs.YtghkbgmbbcaecaaW.PrintLast
abbrev IN:=S62
instance:DecidableEq IN:=fun a b=>decidable_of_iff (a.f0=b.f0∧a.f1=b.f1∧a.f2=b.f2) ⟨fun h=>by
  obtain ⟨a0,a1,a2⟩:=a
  obtain ⟨b0,b1,b2⟩:=b
  obtain ⟨rfl,rfl,rfl⟩:=h
  rfl,fun h=>by subst h;exact ⟨rfl,rfl,rfl⟩⟩
theorem eqNode_eq (a b:IN):laws_eqNode.f a.f0 a.f1 a.f2 b.f0 b.f1 b.f2=some (decide (a=b)):=by
  obtain ⟨a0,a1,a2⟩:=a
  obtain ⟨b0,b1,b2⟩:=b
  unfold laws_eqNode.f
  by_cases h0:a0=b0
  · by_cases h1:a1=b1
    · cases a2 <;> cases b2 <;> simp [h0,h1]
    · simp [h0,h1]
  · simp [h0]
theorem rd_nat' (l:List IN) (i:Nat) (h:i<l.length):rT l (i:Int)=l[i]:=by simp [rT,h]
theorem eqNodeS_l0 (a b:List IN) (hab:a.length=b.length) (hl:a.length≤1048576):∀ (n i:Nat),i+n=a.length→Ev (fun k=>laws_eqNodeS.l0 k a b (i:Int)) (decide (a.drop i=b.drop i)):=by
  intro n
  induction n with
  | zero =>
    intro i h
    refine Ev.succ ?_
    simp only [laws_eqNodeS.l0]
    refine Ev.neg (by omega) ?_
    rw [List.drop_of_length_le (by omega),List.drop_of_length_le (by omega)]
    exact Ev.pure _
  | succ n ih =>
    intro i h
    refine Ev.succ ?_
    simp only [laws_eqNodeS.l0]
    have hi:i<a.length:=by omega
    have hi2:i<b.length:=by omega
    refine Ev.pos (by omega) (Ev.pos (by omega) (Ev.pos (by omega) ?_))
    simp only [eqNode_eq,Option.bind_some,rd_nat' a i hi,rd_nat' b i hi2]
    have hd:(a.drop i=b.drop i) ↔ (a[i]=b[i]∧a.drop (i+1)=b.drop (i+1)):=by
      rw [List.drop_eq_getElem_cons hi,List.drop_eq_getElem_cons hi2]
      exact List.cons_eq_cons
    rw [decide_eq_decide.2 hd]
    by_cases e:a[i]=b[i]
    · refine Ev.pos (by simp [e]) ?_
      rw [wnext i (by omega)]
      have hq:=ih (i+1) (by omega)
      have e2:decide (a[i]=b[i]∧a.drop (i+1)=b.drop (i+1))=decide (a.drop (i+1)=b.drop (i+1)):=decide_eq_decide.2 (and_iff_right e)
      rw [e2]
      exact hq
    · refine Ev.neg (by simp [e]) ?_
      have e2:decide (a[i]=b[i]∧a.drop (i+1)=b.drop (i+1))=false:=decide_eq_false (fun h=>e h.1)
      rw [e2]
      exact Ev.pure _
theorem eqTrie_ev (a b:List IN) (hl:a.length≤1048576):Ev (fun k=>laws_eqTrie.f k a b) (decide (a=b)):=by
  unfold laws_eqTrie.f laws_eqNodeS.f
  by_cases hab:a.length=b.length
  · refine Ev.bind (t:=decide (a=b)) (Ev.pos (by omega) ?_) ?_
    · simpa using eqNodeS_l0 a b hab hl a.length 0 (by omega)
    · by_cases e:a=b
      · simp only [e,decide_true,if_true];exact Ev.pure _
      · simp only [e,decide_false,Bool.false_eq_true,if_false];exact Ev.pure _
  · have e:a ≠ b:=fun h=>hab (congrArg List.length h)
    refine Ev.bind (t:=false) (Ev.neg (by omega) (Ev.pure _)) ?_
    simp only [e,decide_false,Bool.false_eq_true,if_false]
    exact Ev.pure _
end Go.Proofs.Ytghkbgmbbcaecaa.Q
namespace Go.Proofs.Ytghkbgmbbcaecaa.Q
open Go.RowKit Go.Proofs.YtghkbgmbbcaecaaW.PrintWords Go.Proofs.YtghkbgmbbcaecaaW.PrintLast
def letterW (n:Int):ByteArray:=strOfNums [(wrap64 (97+n)) % 256]
theorem letterW_size (n:Int):(letterW n).size=1:=by
  simp [letterW,strOfNums,ByteArray.size]
theorem size_app (a b:ByteArray):(a ++ b).size=a.size+b.size:=by simp
instance (l:List ByteArray):Decidable (SW l):=inferInstanceAs (Decidable (l.Pairwise fun a b=>lw a≤lw b))
theorem allPfx_len:∀ (ws:List ByteArray),(∀ w ∈ ws,w.size≤12)→(allPfx ws).length≤1+12 * ws.length:=by
  intro ws h
  unfold allPfx
  rw [List.length_cons]
  have:(ws.flatMap fun w=>pfx w w.size).length≤12 * ws.length:=by
    induction ws with
    | nil=>simp
    | cons w ws ih =>
      rw [List.flatMap_cons,List.length_append,List.length_cons]
      have h1:=ih (fun x hx=>h x (List.mem_cons_of_mem _ hx))
      have h2:=h w List.mem_cons_self
      have h3:(pfx w w.size).length=w.size:=by simp [pfx]
      omega
  omega
theorem okTrieOf_of {ws:List ByteArray} (h12:∀ w ∈ ws,w.size≤12) (h40:ws.length≤1000000) (hs:SW ws):impl_trieOf.f ws=some (trieW ws):=by
  unfold impl_trieOf.f okTrieOf
  have:=allPfx_len ws h12
  rw [if_pos]
  simp only [Bool.and_eq_true,decide_eq_true_eq]
  exact ⟨⟨by omega,by omega⟩,hs⟩
theorem prefW_le (ws:List ByteArray) (h:∀ w ∈ ws,w.size≤12):(prefW ws).length≤1+12 * ws.length:=Nat.le_trans (prefW_len ws) (allPfx_len ws h)
theorem trieW_length (ws:List ByteArray):(trieW ws).length=(prefW ws).length:=List.length_map _
end Go.Proofs.Ytghkbgmbbcaecaa.Q
