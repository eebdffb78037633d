import Derived.Test.YtghkbgmbbcaecaaA0
import Derived.Test.YtghkbgmbbcaecaaA1
import Derived.Test.YtghkbgmbbcaecaaA2
import Derived.Test.YtghkbgmbbcaecaaA3
import Derived.Test.YtghkbgmbbcaecaaA4
import Derived.Test.YtghkbgmbbcaecaaAwWords
import Derived.Test.YtghkbgmbbcaecaaAwLast
import Derived.Test.YtghkbgmbbcaecaaAwTab
import Derived.Test.YtghkbgmbbcaecaaAwApart
import Derived.Test.YtghkbgmbbcaecaaAwFoot
import Derived.Test.YtghkbgmbbcaecaaAwKept
import Derived.Test.YtghkbgmbbcaecaaAwShare
import Derived.Test.YtghkbgmbbcaecaaAwN
import Derived.Test.YtghkbgmbbcaecaaAwEqStruct
import Derived.Test.YtghkbgmbbcaecaaAwRepsOne
import Derived.Test.YtghkbgmbbcaecaaAwGuard
import Derived.Test.YtghkbgmbbcaecaaAwMore
import Derived.Test.YtghkbgmbbcaecaaProg
import Derived.Below
import Derived.Deep.Draws
import Derived.Deep.AppendLies
import Derived.Maps.AppendAt
import Derived.OwnWalk
import Derived.Laws.BytesArg
import Derived.Laws.MakeOwn
import Derived.Laws.OwnMore
import Derived.Deep.OwnRows
import Derived.Tactics
import Derived.Lib.ConvBytes
import Derived.Laws.Slices
import Derived.WalkKit
import Derived.KernelRfl
import Derived.RowKit3
import Derived.Deep.LoopGhost
import Derived.Deep.QuietTactic
import Derived.BigQuiet
import Derived.WideLaws
import Derived.Deep.DeepCutAuto
import Derived.Deep.CutBlock
import Derived.Deep.RegionHeld3
import Derived.Laws.Rows
import Derived.Lib.AppendStr
import Derived.ArgAppend
import Derived.Laws.IdiomCopy
import Derived.OrdersHeld
import Derived.Laws.BitsLemmas
import Derived.RowKit
import Derived.Lib.SlicesCompact
import Derived.Maps.Own
import Derived.StringKeys
import Derived.Maps.OwnOps
import Derived.Maps.OwnSet
import Derived.Maps.Views
import Derived.Laws.AppendOwn
import Derived.Deep.DrawnRows
import Derived.Shelf.Sort.Plain
import Derived.Shelf.Slices.CompactS
import Derived.Shelf.Slices.In.SortNone
import Derived.RangeFuncBox
import Derived.RangeFuncLeaves
import Derived.Shelf.Abstract
import Derived.OwnWalkIn
import Derived.TacticsInMore
import Derived.LoopNIn
import Derived.LoopIn
import Derived.Lib.OwnBridge
import Derived.Sort.OwnSorted
import Derived.Sort.Grow
import Derived.Shelf.Strings.OnBuilder
import Derived.Ground.NamesProg
import Derived.Ground.SlgfProg
import Derived.Sort.Walk0
import Derived.Lib.Strings
import Derived.Deep.Slices
import Derived.Deep.Fields
import Derived.ChangeSame
import Derived.ChangeArms
import Derived.WideShapes
import Derived.Test.YtghkbgmbbcaecaaRows
import Derived.ProofKit
import Derived.OpenShut
import Derived.ShutString
import Derived.ChangeOld
import Derived.SizedLaws
import Derived.Carry
set_option linter.unusedVariables false
set_option linter.unusedSimpArgs false
namespace Go.Proofs.Ytghkbgmbbcaecaa.Q
open Go.RowKit Go.Proofs.YtghkbgmbbcaecaaW.PrintWords Go.Proofs.YtghkbgmbbcaecaaW.PrintLast
def letters (w:ByteArray):Prop:=∀ x ∈ lw w,97≤x.toNat∧x.toNat≤122
def okWord (w:ByteArray):Prop:=w.size≤12∧letters w
structure VW (ws:List ByteArray):Prop where
  ss:SS ws
  ok:∀ w ∈ ws,okWord w
  len:ws.length≤40
def V (l:List IN):Prop:=∃ ws,VW ws∧l=trieW ws
theorem letters_empty:letters ByteArray.empty:=fun x hx=>by cases hx
theorem letters_cut {w:ByteArray} (h:letters w) (n:Nat):letters (w.extract 0 n):=fun x hx=>by
  rw [lw_extract] at hx
  exact h x (List.mem_of_mem_take hx)
theorem prefW_ok {ws:List ByteArray} (h:∀ w ∈ ws,okWord w) {p:ByteArray} (hp:p ∈ prefW ws):okWord p:=by
  rcases mem_prefW.1 hp with rfl|⟨w,hw,j,hj,rfl⟩
  · exact ⟨Nat.zero_le _,letters_empty⟩
  · have:=(h w hw).1
    exact ⟨by rw [ext_size _ _ (by omega)];omega,letters_cut (h w hw).2 _⟩
theorem prefW_pos (ws:List ByteArray):0<(prefW ws).length:=List.length_pos_of_mem (mem_prefW.2 (.inl rfl))
theorem prefW_zero (ws:List ByteArray):rdOf ByteArray.empty (prefW ws) 0=ByteArray.empty:=by
  obtain ⟨k,hk,e⟩:=List.getElem_of_mem (mem_prefW.2 (.inl rfl):ByteArray.empty ∈ prefW ws)
  by_cases h0:k=0
  · subst h0
    have:=rd_nat (prefW ws) hk
    exact this.trans e
  · have h1:=ss_at (prefW_ss ws) (show 0<k by omega) hk
    rw [rd_nat _ hk,e] at h1
    exact absurd h1 (List.not_lt_nil _)
theorem prefW_nonzero (ws:List ByteArray) {k:Nat} (h0:0<k) (hk:k<(prefW ws).length):(rdOf ByteArray.empty (prefW ws) (k:Int)).size ≠ 0:=fun e=>by
  have h1:=ss_at (prefW_ss ws) h0 hk
  have h2:lw (rdOf ByteArray.empty (prefW ws) (k:Int))=[]:=List.eq_nil_of_length_eq_zero (by rw [lw_length];exact e)
  rw [h2] at h1
  exact absurd h1 (List.not_lt_nil _)
theorem lw_app (a b:ByteArray):lw (a ++ b)=lw a ++ lw b:=by simp [lw]
theorem lw_letterW (n:Int) (h0:0≤n) (h1:n≤25):lw (letterW n)=[UInt8.ofNat (97+n.toNat)]:=by
  have e:(wrap64 (97+n)) % 256=((97+n.toNat:Nat):Int):=by unfold wrap64;omega
  unfold letterW
  rw [e]
  rfl
theorem cut_last {p:ByteArray} (h:letters p) (h0:p.size ≠ 0):0≤(bt p ((p.size:Int) - 1)+159) % 256∧(bt p ((p.size:Int) - 1)+159) % 256≤25∧p.extract 0 (p.size - 1) ++ letterW ((bt p ((p.size:Int) - 1)+159) % 256)=p:=by
  have e:((p.size:Int) - 1).toNat=p.size - 1:=by omega
  have hlt:p.size - 1<p.size:=by omega
  have hl:p.size - 1<(lw p).length:=by rw [lw_length];omega
  have hb:bt p ((p.size:Int) - 1)=((p[p.size - 1]'hlt).toNat:Int):=by simp [bt,e,hlt]
  have hx:(lw p)[p.size - 1]'hl=p[p.size - 1]'hlt:=rfl
  have hr:=h _ (List.getElem_mem hl)
  rw [hx] at hr
  rw [hb]
  have h1:(((p[p.size - 1]'hlt).toNat:Int)+159) % 256=((p[p.size - 1]'hlt).toNat:Int) - 97:=by omega
  rw [h1]
  refine ⟨by omega,by omega,lw_inj ?_⟩
  rw [lw_app,lw_extract,lw_letterW _ (by omega) (by omega)]
  have h2:(97+(((p[p.size - 1]'hlt).toNat:Int) - 97).toNat)=(p[p.size - 1]'hlt).toNat:=by omega
  rw [h2,UInt8.ofNat_toNat,← hx]
  have h3:=List.take_append_getElem hl
  rw [h3]
  exact List.take_of_length_le (by rw [lw_length];omega)
theorem trieW_at (ws:List ByteArray) {i:Nat} (hi:i<(prefW ws).length):(trieW ws)[i]'(by rw [trieW_length];exact hi)=nodeW (prefW ws) ws (rdOf ByteArray.empty (prefW ws) (i:Int)):=by
  rw [rd_nat _ hi]
  simp [trieW]
theorem node_at (ws:List ByteArray) (ho:∀ w ∈ ws,okWord w) {i:Nat} (h0:0<i) (hi:i<(prefW ws).length):∃ j,j<i∧rdOf ByteArray.empty (prefW ws) (j:Int)=(rdOf ByteArray.empty (prefW ws) (i:Int)).extract 0 ((rdOf ByteArray.empty (prefW ws) (i:Int)).size - 1) ∧
    (nodeW (prefW ws) ws (rdOf ByteArray.empty (prefW ws) (i:Int))).f1=(j:Int)∧0≤(nodeW (prefW ws) ws (rdOf ByteArray.empty (prefW ws) (i:Int))).f0∧(nodeW (prefW ws) ws (rdOf ByteArray.empty (prefW ws) (i:Int))).f0≤25 ∧
    rdOf ByteArray.empty (prefW ws) (j:Int) ++ letterW (nodeW (prefW ws) ws (rdOf ByteArray.empty (prefW ws) (i:Int))).f0=rdOf ByteArray.empty (prefW ws) (i:Int):=by
  have hz:=prefW_nonzero ws h0 hi
  obtain ⟨p,hp⟩:∃ p,p=rdOf ByteArray.empty (prefW ws) (i:Int):=⟨_,rfl⟩
  rw [← hp] at hz ⊢
  obtain ⟨j,hj,e1,e2⟩:=cut_idx hi hp hz
  have hm:p ∈ prefW ws:=by rw [hp,rd_nat _ hi];exact List.getElem_mem hi
  obtain ⟨a1,a2,a3⟩:=cut_last (prefW_ok ho hm).2 hz
  refine ⟨j,hj,e1,?_,?_,?_,?_⟩
  · unfold nodeW;rw [if_neg hz];exact congrArg Nat.cast e2
  · unfold nodeW;rw [if_neg hz];exact a1
  · unfold nodeW;rw [if_neg hz];exact a2
  · unfold nodeW;rw [if_neg hz,e1];exact a3
theorem prefsW_trie (ws:List ByteArray) (ho:∀ w ∈ ws,okWord w):∀ (n i:Nat),0<i→i+n=(prefW ws).length→prefsW ((prefW ws).take i) ((trieW ws).drop i)=some (prefW ws):=by
  intro n
  induction n with
  | zero =>
    intro i _ h
    rw [List.take_of_length_le (by omega),List.drop_of_length_le (by rw [trieW_length];omega)]
    rfl
  | succ n ih =>
    intro i h0 h
    have hi:i<(prefW ws).length:=by omega
    have hi2:i<(trieW ws).length:=by rw [trieW_length];exact hi
    rw [List.drop_eq_getElem_cons hi2,trieW_at ws hi]
    obtain ⟨j,hj,_,e1,e2,e3,e4⟩:=node_at ws ho h0 hi
    simp only [prefsW]
    have hl:((prefW ws).take i).length=i:=by rw [List.length_take];omega
    rw [e1,hl,if_pos ⟨by omega,by omega,e2,e3⟩]
    have hr:rdOf ByteArray.empty ((prefW ws).take i) (j:Int)=rdOf ByteArray.empty (prefW ws) (j:Int):=by
      rw [rd_nat _ (by omega),rd_nat _ (by omega),List.getElem_take]
    rw [hr,e4,← take_rd _ _ hi]
    exact ih (i+1) (by omega) (by omega)
theorem prefixesW_trie {ws:List ByteArray} (h:VW ws):prefixesW (trieW ws)=some (prefW ws):=by
  have h1:=prefW_pos ws
  have h2:=prefW_le ws (fun w hw=>(h.ok w hw).1)
  have h3:=h.len
  unfold prefixesW
  rw [if_pos (by rw [trieW_length];omega)]
  have e:(prefW ws).take 1=[ByteArray.empty]:=by
    rw [take_rd _ 0 h1]
    show [] ++ [rdOf ByteArray.empty (prefW ws) 0]=_
    rw [prefW_zero];rfl
  have:=prefsW_trie ws h.ok ((prefW ws).length - 1) 1 (by omega) (by omega)
  rwa [e] at this
theorem hasW_map (ws:List ByteArray) (ps qs:List ByteArray):wordsW (qs.map (nodeW ps ws)) qs=qs.filter fun p=>hasW ws p:=by
  induction qs with
  | nil=>rfl
  | cons q qs ih =>
    have e:(nodeW ps ws q).f2=hasW ws q:=by unfold nodeW;split <;> rfl
    simp only [List.map_cons,wordsW,e,ih,List.filter_cons]
theorem mem_prefW_self {ws:List ByteArray} {w:ByteArray} (h:w ∈ ws):w ∈ prefW ws:=by
  by_cases h0:w.size=0
  · have:w=ByteArray.empty:=lw_inj (List.eq_nil_of_length_eq_zero (by rw [lw_length];exact h0))
    exact mem_prefW.2 (.inl this)
  · exact mem_prefW.2 (.inr ⟨w,h,w.size - 1,by omega,by rw [show w.size - 1+1=w.size by omega,ext_all]⟩)
theorem filter_ws {ws:List ByteArray} (h:SS ws):((prefW ws).filter fun p=>hasW ws p)=ws:=by
  refine ss_ext ((prefW_ss ws).filter _) h (fun x=>?_)
  rw [List.mem_filter,hasW_iff]
  exact ⟨fun h=>h.2,fun h=>⟨mem_prefW_self h,h⟩⟩
theorem wordsW_trie {ws:List ByteArray} (h:SS ws):wordsW (trieW ws) (prefW ws)=ws:=by
  unfold trieW
  rw [hasW_map,filter_ws h]
theorem prefW_set (ws:List ByteArray):prefW (setW ws)=prefW ws:=by
  refine ss_ext (prefW_ss _) (prefW_ss _) (fun x=>?_)
  rw [mem_prefW,mem_prefW]
  refine or_congr Iff.rfl ⟨?_,?_⟩
  · rintro ⟨w,hw,r⟩;exact ⟨w,mem_setW.1 hw,r⟩
  · rintro ⟨w,hw,r⟩;exact ⟨w,mem_setW.2 hw,r⟩
theorem hasW_set (ws:List ByteArray) (x:ByteArray):hasW (setW ws) x=hasW ws x:=by
  rw [Bool.eq_iff_iff,hasW_iff,hasW_iff,mem_setW]
theorem trieW_set (ws:List ByteArray):trieW (setW ws)=trieW ws:=by
  unfold trieW
  rw [prefW_set]
  refine List.map_congr_left fun p _=>?_
  unfold nodeW
  simp only [hasW_set]
theorem prefsW_letters:∀ {l:List IN} {ps r:List ByteArray},(∀ p ∈ ps,letters p)→prefsW ps l=some r→∀ p ∈ r,letters p
  | [],ps,r,hp,h=>by
    simp only [prefsW] at h
    injection h with h
    subst h;exact hp
  | n :: l,ps,r,hp,h=>by
    simp only [prefsW] at h
    split at h
    · rename_i hc
      refine prefsW_letters (fun p hm=>?_) h
      rcases List.mem_append.1 hm with hm|hm
      · exact hp p hm
      · rw [List.mem_singleton.1 hm]
        intro x hx
        rw [lw_app] at hx
        rcases List.mem_append.1 hx with hx|hx
        · exact hp _ (at_mem hc.1 hc.2.1) x hx
        · rw [lw_letterW _ hc.2.2.1 hc.2.2.2] at hx
          rw [List.mem_singleton.1 hx,UInt8.toNat_ofNat_of_lt' (by have:=hc.2.2;have hz:UInt8.size=256:=rfl;omega)]
          have:=hc.2.2
          omega
    · cases h
theorem isTrieW_iff (l:List IN):isTrieW l=true ↔ V l:=by
  constructor
  · intro h
    unfold isTrieW at h
    cases hp:prefixesW l with
    | none=>rw [hp] at h;cases h
    | some ps =>
      rw [hp] at h
      simp only at h
      split at h
      · cases h
      · rename_i h12
        simp only [Bool.and_eq_true,decide_eq_true_eq] at h
        obtain ⟨h40,_,hl⟩:=h
        refine ⟨setW (wordsW l ps),⟨setW_ss _,fun w hw=>?_,Nat.le_trans (setW_len _) h40⟩,by rw [trieW_set];exact hl.symm⟩
        have hm:=wordsW_mem (mem_setW.1 hw)
        refine ⟨?_,?_⟩
        · have h1:¬ longW w=true:=fun h2=>h12 (List.any_eq_true.2 ⟨w,hm,h2⟩)
          simp [longW] at h1
          omega
        · unfold prefixesW at hp
          split at hp
          · exact prefsW_letters (fun p hp=>by rw [List.mem_singleton.1 hp];exact letters_empty) hp w hm
          · cases hp
  · rintro ⟨ws,h,rfl⟩
    unfold isTrieW
    rw [prefixesW_trie h]
    simp only
    have h1:¬ (prefW ws).any longW=true:=fun hf=>by
      obtain ⟨p,hp,hl⟩:=List.any_eq_true.1 hf
      have:=(prefW_ok h.ok hp).1
      simp [longW] at hl
      omega
    rw [if_neg h1,wordsW_trie h.ss]
    simp only [Bool.and_eq_true,decide_eq_true_eq]
    exact ⟨h.len,h.ss.imp (fun h=>List.le_of_lt h),trivial⟩
end Go.Proofs.Ytghkbgmbbcaecaa.Q
namespace Go.Proofs.Ytghkbgmbbcaecaa.Q
open Go.RowKit Go.Proofs.YtghkbgmbbcaecaaW.PrintWords Go.Proofs.YtghkbgmbbcaecaaW.PrintLast
theorem l1In_eq (a b c:Int):spec_l1In.f a b c=some (decide (b≤a∧a≤c)):=by
  unfold spec_l1In.f
  by_cases h:b≤a
  · rw [if_pos h];congr 1;exact decide_eq_decide.2 (by omega)
  · rw [if_neg (by omega)];congr 1;exact (decide_eq_false (by omega)).symm
theorem bt_nat (a:ByteArray) (i:Nat) (h:i<(lw a).length):bt a (i:Int)=(((lw a)[i]'h).toNat:Int):=by
  have h2:i<a.size:=by rw [← lw_length];exact h
  have:((i:Int)).toNat<a.size:=by simpa using h2
  rw [← bt_at a (i:Int) this]
  rfl
theorem lt_drop:∀ (i:Nat) (x y:Ws),x.take i=y.take i→(x<y ↔ x.drop i<y.drop i)
  | 0,x,y,_=>Iff.rfl
  | i+1,[],[],_=>Iff.rfl
  | i+1,[],b :: y,h=>by simp at h
  | i+1,a :: x,[],h=>by simp at h
  | i+1,a :: x,b :: y,h=>by
    simp only [List.take_succ_cons,List.cons.injEq] at h
    obtain ⟨rfl,h⟩:=h
    rw [List.cons_lt_cons_self,List.drop_succ_cons,List.drop_succ_cons]
    exact lt_drop i x y h
theorem before_l0 (a b:ByteArray) (ha:a.size≤4294967296):∀ (n i:Nat),i+n=a.size→i≤b.size→(lw a).take i=(lw b).take i→Ev (fun k=>spec_l2Before.l0 k a b (i:Int)) (decide (lw a<lw b)):=by
  intro n
  induction n with
  | zero =>
    intro i h hib he
    refine Ev.succ ?_
    simp only [spec_l2Before.l0]
    refine Ev.neg (by omega) (Ev.succ ?_)
    simp only [spec_l2Before.j1]
    refine Ev.neg (by decide) ?_
    have e:decide ((a.size:Int)<(b.size:Int))=decide (lw a<lw b):=by
      refine decide_eq_decide.2 ?_
      rw [lt_drop i _ _ he,List.drop_of_length_le (by rw [lw_length];omega)]
      constructor
      · intro hq
        have hib2:i<(lw b).length:=by rw [lw_length];omega
        rw [List.drop_eq_getElem_cons hib2]
        exact List.nil_lt_cons _ _
      · intro hq
        have:(lw b).drop i ≠ []:=fun hn=>by rw [hn] at hq;exact absurd hq (List.not_lt_nil _)
        have h2:¬ (lw b).length≤i:=fun hn=>this (List.drop_of_length_le hn)
        rw [lw_length] at h2
        omega
    rw [e]
    exact Ev.pure _
  | succ n ih =>
    intro i h hib he
    refine Ev.succ ?_
    simp only [spec_l2Before.l0]
    have hia:i<(lw a).length:=by rw [lw_length];omega
    refine Ev.pos (by omega) (Ev.succ ?_)
    simp only [spec_l2Before.j1]
    by_cases hib2:i<b.size
    · have hbl:i<(lw b).length:=by rw [lw_length];omega
      simp only [bt_nat a i hia,bt_nat b i hbl]
      refine Ev.pos (by simpa using hib2) (Ev.pos (by omega) (Ev.pos (by omega) (Ev.pos (by omega) ?_)))
      by_cases e:(lw a)[i]=(lw b)[i]
      · refine Ev.pos (by rw [e]) ?_
        rw [wnext i (by omega)]
        refine ih (i+1) (by omega) (by omega) ?_
        rw [List.take_succ_eq_append_getElem hia,List.take_succ_eq_append_getElem hbl,he,e]
      · have hne:¬ (((lw a)[i]).toNat:Int)=(((lw b)[i]).toNat:Int):=fun hq=>e (UInt8.toNat.inj (by omega))
        refine Ev.neg hne ?_
        have e2:decide ((((lw a)[i]).toNat:Int)<(((lw b)[i]).toNat:Int))=decide (lw a<lw b):=by
          refine decide_eq_decide.2 ?_
          rw [lt_drop i _ _ he,List.drop_eq_getElem_cons hia,List.drop_eq_getElem_cons hbl,List.cons_lt_cons_iff]
          constructor
          · intro hq;exact .inl (UInt8.lt_iff_toNat_lt.2 (by omega))
          · rintro (hq|hq)
            · have:=UInt8.lt_iff_toNat_lt.1 hq;omega
            · exact absurd hq.1 e
        rw [e2]
        exact Ev.pure _
    · refine Ev.neg (by simpa using hib2) ?_
      have e:decide ((a.size:Int)<(b.size:Int))=decide (lw a<lw b):=by
        refine decide_eq_decide.2 ?_
        rw [lt_drop i _ _ he,List.drop_of_length_le (show (lw b).length≤i by rw [lw_length];omega)]
        exact ⟨fun hq=>absurd hq (by omega),fun hq=>absurd hq (List.not_lt_nil _)⟩
      rw [e]
      exact Ev.pure _
theorem before_ev (a b:ByteArray) (ha:a.size≤4294967296):Ev (fun k=>spec_l2Before.f k a b) (decide (lw a<lw b)):=by
  unfold spec_l2Before.f
  exact before_l0 a b ha a.size 0 (by omega) (by omega) rfl
theorem same_l0 (a b:List IN) (hl:a.length≤1048576):∀ (n i:Nat),i+n=a.length→i≤b.length→a.take i=b.take i→Ev (fun k=>spec_l2Same.l0 k (i:Int) a b) (decide (a=b)):=by
  intro n
  induction n with
  | zero =>
    intro i h hi he
    refine Ev.succ ?_
    simp only [spec_l2Same.l0]
    refine Ev.neg (by omega) (Ev.succ ?_)
    simp only [spec_l2Same.j1]
    refine Ev.neg (by decide) ?_
    have e:((a.length:Int) == (b.length:Int))=decide (a=b):=by
      rw [Bool.eq_iff_iff,beq_iff_eq,decide_eq_true_iff]
      constructor
      · intro hq
        rw [List.take_of_length_le (by omega),List.take_of_length_le (by omega)] at he
        exact he
      · rintro rfl;rfl
    rw [e]
    exact Ev.pure _
  | succ n ih =>
    intro i h hi he
    refine Ev.succ ?_
    simp only [spec_l2Same.l0]
    have hia:i<a.length:=by omega
    refine Ev.pos (by omega) (Ev.succ ?_)
    simp only [spec_l2Same.j1]
    by_cases hib:i<b.length
    · refine Ev.pos (by simpa using hib) (Ev.pos (by omega) (Ev.pos (by omega) (Ev.pos (by omega) ?_)))
      simp only [rd_nat' a i hia,rd_nat' b i hib]
      have hne:∀ x y:IN,(!(x.f0 == y.f0) || (!(x.f1 == y.f1) || !(x.f2 == y.f2)))=!decide (x=y):=fun x y=>by
        obtain ⟨x0,x1,x2⟩:=x
        obtain ⟨y0,y1,y2⟩:=y
        by_cases h0:x0=y0 <;> by_cases h1:x1=y1 <;> by_cases h2:x2=y2 <;> simp [h0,h1,h2]
      rw [hne]
      by_cases e:a[i]=b[i]
      · refine Ev.neg (by simp [e]) ?_
        rw [wnext i (by omega)]
        refine ih (i+1) (by omega) (by omega) ?_
        rw [List.take_succ_eq_append_getElem hia,List.take_succ_eq_append_getElem hib,he,e]
      · refine Ev.pos (by simp [e]) ?_
        rw [decide_eq_false (fun hq=>e (by subst hq;rfl))]
        exact Ev.pure _
    · refine Ev.neg (by simpa using hib) ?_
      have e:((a.length:Int) == (b.length:Int))=decide (a=b):=by
        rw [Bool.eq_iff_iff,beq_iff_eq,decide_eq_true_iff]
        constructor
        · intro hq;omega
        · rintro rfl;rfl
      rw [e]
      exact Ev.pure _
theorem same_ev (a b:List IN) (hl:a.length≤1048576):Ev (fun k=>spec_l2Same.f k a b) (decide (a=b)):=by
  unfold spec_l2Same.f
  exact same_l0 a b hl a.length 0 (by omega) (by omega) rfl
instance (w:ByteArray):Decidable (letters w):=inferInstanceAs (Decidable (∀ x ∈ lw w,97≤x.toNat∧x.toNat≤122))
instance (w:ByteArray):Decidable (okWord w):=inferInstanceAs (Decidable (w.size≤12∧letters w))
theorem word_l0 (a:ByteArray):∀ (n i:Nat),i+n=min a.size 13→(∀ x ∈ (lw a).take i,97≤x.toNat∧x.toNat≤122)→Ev (fun k=>spec_l2Word.l0 k a (i:Int)) (decide (okWord a)):=by
  intro n
  induction n with
  | zero =>
    intro i h hx
    refine Ev.succ ?_
    simp only [spec_l2Word.l0]
    have e:decide ((a.size:Int)≤12)=decide (okWord a):=by
      refine decide_eq_decide.2 ⟨fun hs=>⟨by omega,?_⟩,fun h=>by have:=h.1;omega⟩
      rw [List.take_of_length_le (by rw [lw_length];omega)] at hx
      exact hx
    by_cases hs:a.size≤12
    · refine Ev.neg (by omega) (Ev.succ ?_)
      simp only [spec_l2Word.j1]
      refine Ev.neg (by decide) ?_
      rw [e]
      exact Ev.pure _
    · have e1:i=13:=by omega
      by_cases h13:13<a.size
      · refine Ev.pos (by omega) (Ev.succ ?_)
        simp only [spec_l2Word.j1]
        refine Ev.neg (by simp;omega) ?_
        rw [e]
        exact Ev.pure _
      · refine Ev.neg (by omega) (Ev.succ ?_)
        simp only [spec_l2Word.j1]
        refine Ev.neg (by decide) ?_
        rw [e]
        exact Ev.pure _
  | succ n ih =>
    intro i h hx
    refine Ev.succ ?_
    simp only [spec_l2Word.l0]
    have hi:i<(lw a).length:=by rw [lw_length];omega
    refine Ev.pos (by omega) (Ev.succ ?_)
    simp only [spec_l2Word.j1,bt_nat a i hi]
    refine Ev.pos (by simp;omega) (Ev.pos (by omega) (Ev.pos (by omega) ?_))
    have hnot:¬ (97≤((lw a)[i]).toNat∧((lw a)[i]).toNat≤122)→decide (okWord a)=false:=fun hq=>decide_eq_false (fun ho=>hq (ho.2 _ (List.getElem_mem hi)))
    by_cases h1:97≤((lw a)[i]).toNat
    · refine Ev.neg (by omega) ?_
      by_cases h2:((lw a)[i]).toNat≤122
      · refine Ev.neg (by omega) ?_
        rw [wnext i (by omega)]
        refine ih (i+1) (by omega) (fun x hm=>?_)
        rw [List.take_succ_eq_append_getElem hi] at hm
        rcases List.mem_append.1 hm with hm|hm
        · exact hx x hm
        · rw [List.mem_singleton.1 hm];exact ⟨h1,h2⟩
      · rw [hnot (by omega)]
        exact Ev.pos (by omega) (Ev.pure _)
    · rw [hnot (by omega)]
      exact Ev.pos (by omega) (Ev.pure _)
theorem word_ev (a:ByteArray):Ev (fun k=>spec_l2Word.f k a) (decide (okWord a)):=by
  unfold spec_l2Word.f
  exact word_l0 a (min a.size 13) 0 (by omega) (fun x hx=>by cases hx)
theorem own_eq (l:List ByteArray) (hl:l.length<8796093022208):spec_l2Own.f l=some l:=by
  unfold spec_l2Own.f
  simp only [Option.bind_some,List.length_nil,Nat.zero_add,List.nil_append]
  rw [if_pos hl]
theorem ins_ss {l:List ByteArray} {w:ByteArray} {i:Nat} (h:SS l) (h1:∀ x ∈ l.take i,lw x<lw w) (h2:∀ x ∈ l.drop i,lw w<lw x):(l.take i ++ [w]) ++ l.drop i=setW (w :: l):=by
  have e:l=l.take i ++ l.drop i:=(List.take_append_drop i l).symm
  refine ss_ext ?_ (setW_ss _) (fun x=>?_)
  · unfold SS at h ⊢
    rw [e,List.pairwise_append] at h
    rw [List.append_assoc,List.pairwise_append]
    refine ⟨h.1,?_,fun a ha b hb=>?_⟩
    · rw [List.singleton_append,List.pairwise_cons]
      exact ⟨h2,h.2.1⟩
    · rcases List.mem_append.1 hb with hb|hb
      · rw [List.mem_singleton.1 hb];exact h1 a ha
      · exact h.2.2 a ha b hb
  · rw [mem_setW,List.mem_cons]
    constructor
    · intro hx
      rcases List.mem_append.1 hx with hx|hx
      · rcases List.mem_append.1 hx with hx|hx
        · exact .inr (List.mem_of_mem_take hx)
        · exact .inl (List.mem_singleton.1 hx)
      · exact .inr (List.mem_of_mem_drop hx)
    · rintro (rfl|hx)
      · simp
      · rw [e] at hx
        rcases List.mem_append.1 hx with hx|hx
        · exact List.mem_append_left _ (List.mem_append_left _ hx)
        · exact List.mem_append_right _ hx
theorem put_l0 (l:List ByteArray) (w:ByteArray) (hl:l.length≤4294967296) (hz:∀ x ∈ l,x.size≤4294967296) (hs:SS l):∀ (n i:Nat),i+n=l.length→(∀ x ∈ l.take i,lw x<lw w)→Ev (fun k=>spec_l2Put.l0 k l w (i:Int)) (setW (w :: l)):=by
  intro n
  induction n with
  | zero =>
    intro i h h1
    refine Ev.succ ?_
    simp only [spec_l2Put.l0]
    have e1:(l.take i).length=i:=by rw [List.length_take];omega
    refine Ev.neg (by omega) (Ev.pos (by omega) (Ev.pos (by omega) (Ev.bindc (own_eq _ (by rw [Int.toNat_natCast,e1];omega)) ?_)))
    simp only [Option.bind_some,Int.toNat_natCast]
    refine Ev.pos (by simp;omega) (Ev.pos (by simp;omega) ?_)
    rw [ins_ss hs h1 (by rw [List.drop_of_length_le (by omega)];intro x hx;cases hx)]
    exact Ev.pure _
  | succ n ih =>
    intro i h h1
    refine Ev.succ ?_
    simp only [spec_l2Put.l0]
    have hi:i<l.length:=by omega
    have e1:(l.take i).length=i:=by rw [List.length_take];omega
    refine Ev.pos (by omega) (Ev.pos (by omega) ?_)
    simp only [rd_nat l hi]
    refine Ev.bind (before_ev _ _ (hz _ (List.getElem_mem hi))) ?_
    by_cases hb:lw l[i]<lw w
    · refine Ev.pos (decide_eq_true hb) ?_
      rw [wnext i (by omega)]
      refine ih (i+1) (by omega) (fun x hx=>?_)
      rw [List.take_succ_eq_append_getElem hi] at hx
      rcases List.mem_append.1 hx with hx|hx
      · exact h1 x hx
      · rw [List.mem_singleton.1 hx];exact hb
    · refine Ev.neg (fun h2=>hb (of_decide_eq_true h2)) ?_
      by_cases e:l[i]=w
      · refine Ev.pos ((tl_eq _ _).2 e) ?_
        have e2:setW (w :: l)=l:=ss_ext (setW_ss _) hs (fun x=>by
          rw [mem_setW,List.mem_cons]
          exact ⟨fun hx=>hx.elim (fun hx=>by rw [hx,← e];exact List.getElem_mem hi) id,.inr⟩)
        rw [e2]
        exact Ev.pure _
      · have hgt:lw w<lw l[i]:=by
          refine List.not_le.1 (fun hle=>?_)
          exact e (lw_inj (List.le_antisymm hle (List.not_lt.1 hb)))
        refine Ev.neg (fun h2=>e ((tl_eq _ _).1 h2)) (Ev.pos (by omega) (Ev.bindc (own_eq _ (by rw [Int.toNat_natCast,e1];omega)) ?_))
        simp only [Option.bind_some,Int.toNat_natCast]
        refine Ev.pos (by simp;omega) (Ev.pos (by simp;omega) ?_)
        rw [ins_ss hs h1 (fun x hx=>?_)]
        · exact Ev.pure _
        · rw [List.drop_eq_getElem_cons hi] at hx
          rcases List.mem_cons.1 hx with rfl|hx
          · exact hgt
          · have:=List.pairwise_append.1 ((List.take_append_drop (i+1) l).symm ▸ hs:SS (l.take (i+1) ++ l.drop (i+1)))
            have hm:l[i] ∈ l.take (i+1):=by
              rw [List.take_succ_eq_append_getElem hi]
              exact List.mem_append_right _ (List.mem_singleton.2 rfl)
            exact List.lt_trans hgt (this.2.2 l[i] hm x hx)
theorem put_ev (l:List ByteArray) (w:ByteArray) (hl:l.length≤4294967296) (hz:∀ x ∈ l,x.size≤4294967296) (hs:SS l):Ev (fun k=>spec_l2Put.f k l w) (setW (w :: l)):=by
  unfold spec_l2Put.f
  exact put_l0 l w hl hz hs l.length 0 (by omega) (fun x hx=>by cases hx)
end Go.Proofs.Ytghkbgmbbcaecaa.Q
namespace Go.Proofs.Ytghkbgmbbcaecaa.Q
open Go.RowKit Go.Proofs.YtghkbgmbbcaecaaW.PrintWords Go.Proofs.YtghkbgmbbcaecaaW.PrintLast
def setRes (l:List ByteArray):List ByteArray × Bool:=if ∀ w ∈ l,okWord w then (setW l,decide (((setW l).length:Int)≤40)) else ([],false)
theorem setW_cons_set (w:ByteArray) (l:List ByteArray):setW (w :: setW l)=setW (l ++ [w]):=ss_ext (setW_ss _) (setW_ss _) (fun x=>by
  rw [mem_setW,mem_setW,List.mem_cons,mem_setW,List.mem_append,List.mem_singleton]
  exact or_comm)
theorem set_l0 (l:List ByteArray) (hl:l.length≤4294967296):∀ (n i:Nat),i+n=l.length→(∀ w ∈ l.take i,okWord w)→Ev (fun k=>spec_l2Set.l0 k l (setW (l.take i)) (i:Int)) (setRes l):=by
  intro n
  induction n with
  | zero =>
    intro i h ho
    refine Ev.succ ?_
    simp only [spec_l2Set.l0]
    rw [List.take_of_length_le (by omega)] at ho ⊢
    unfold setRes
    rw [if_pos ho]
    exact Ev.neg (by omega) (Ev.pure _)
  | succ n ih =>
    intro i h ho
    refine Ev.succ ?_
    simp only [spec_l2Set.l0]
    have hi:i<l.length:=by omega
    refine Ev.pos (by omega) (Ev.pos (by omega) ?_)
    simp only [rd_nat l hi]
    refine Ev.bind (word_ev _) ?_
    by_cases hw:okWord l[i]
    · have h1:=setW_len (l.take i)
      rw [List.length_take] at h1
      refine Ev.pos (decide_eq_true hw) (Ev.bind (put_ev _ _ (by omega) (fun x hx=>by have:=(ho x (mem_setW.1 hx)).1;omega) (setW_ss _)) ?_)
      rw [wnext i (by omega),setW_cons_set,← List.take_succ_eq_append_getElem hi]
      refine ih (i+1) (by omega) (fun w hm=>?_)
      rw [List.take_succ_eq_append_getElem hi] at hm
      rcases List.mem_append.1 hm with hm|hm
      · exact ho w hm
      · rw [List.mem_singleton.1 hm];exact hw
    · refine Ev.neg (fun h2=>hw (of_decide_eq_true h2)) ?_
      unfold setRes
      rw [if_neg (fun hf=>hw (hf _ (List.getElem_mem hi)))]
      exact Ev.pure _
theorem set_ev (l:List ByteArray) (hl:l.length≤4294967296):Ev (fun k=>spec_l2Set.f k l) (setRes l):=by
  unfold spec_l2Set.f
  have e:setW (l.take 0)=[]:=List.eq_nil_of_length_eq_zero (Nat.le_zero.1 (setW_len _))
  have:=set_l0 l hl l.length 0 (by omega) (fun w hw=>by cases hw)
  rw [e] at this
  exact this
theorem has_l0 (l:List ByteArray) (x:ByteArray) (hl:l.length≤4294967296):∀ (n i:Nat),i+n=l.length→(∀ y ∈ l.take i,y ≠ x)→Ev (fun k=>spec_l2Has.l0 k l x (i:Int)) (hasW l x):=by
  intro n
  induction n with
  | zero =>
    intro i h ho
    refine Ev.succ ?_
    simp only [spec_l2Has.l0]
    rw [List.take_of_length_le (by omega)] at ho
    have e:hasW l x=false:=by
      rw [Bool.eq_false_iff]
      intro hf
      exact ho x ((hasW_iff l x).1 hf) rfl
    rw [e]
    exact Ev.neg (by omega) (Ev.pure _)
  | succ n ih =>
    intro i h ho
    refine Ev.succ ?_
    simp only [spec_l2Has.l0]
    have hi:i<l.length:=by omega
    refine Ev.pos (by omega) (Ev.pos (by omega) ?_)
    simp only [rd_nat l hi]
    by_cases e:l[i]=x
    · have e2:hasW l x=true:=(hasW_iff l x).2 (e ▸ List.getElem_mem hi)
      rw [e2]
      exact Ev.pos ((tl_eq _ _).2 e) (Ev.pure _)
    · refine Ev.neg (fun h2=>e ((tl_eq _ _).1 h2)) ?_
      rw [wnext i (by omega)]
      refine ih (i+1) (by omega) (fun y hm=>?_)
      rw [List.take_succ_eq_append_getElem hi] at hm
      rcases List.mem_append.1 hm with hm|hm
      · exact ho y hm
      · rw [List.mem_singleton.1 hm];exact e
theorem has_ev (l:List ByteArray) (x:ByteArray) (hl:l.length≤4294967296):Ev (fun k=>spec_l2Has.f k l x) (hasW l x):=by
  unfold spec_l2Has.f
  exact has_l0 l x hl l.length 0 (by omega) (fun w hw=>by cases hw)
def placeW (l:List ByteArray) (x:ByteArray):Int:=if hasW l x=true then (l.findIdx (fun y=>decide (y=x)):Int) else -1
theorem place_l0 (l:List ByteArray) (x:ByteArray) (hl:l.length≤4294967296):∀ (n i:Nat),i+n=l.length→(∀ y ∈ l.take i,y ≠ x)→Ev (fun k=>spec_l2Place.l0 k l x (i:Int)) (placeW l x):=by
  intro n
  induction n with
  | zero =>
    intro i h ho
    refine Ev.succ ?_
    simp only [spec_l2Place.l0]
    rw [List.take_of_length_le (by omega)] at ho
    unfold placeW
    rw [if_neg (fun hf=>ho x ((hasW_iff l x).1 hf) rfl)]
    exact Ev.neg (by omega) (Ev.pure _)
  | succ n ih =>
    intro i h ho
    refine Ev.succ ?_
    simp only [spec_l2Place.l0]
    have hi:i<l.length:=by omega
    refine Ev.pos (by omega) (Ev.pos (by omega) ?_)
    simp only [rd_nat l hi]
    by_cases e:l[i]=x
    · have e3:l.findIdx (fun y=>decide (y=x))=i:=by
        refine (List.findIdx_eq hi).2 ⟨by simp [e],fun j hj=>?_⟩
        have:l[j] ∈ l.take i:=List.mem_take_iff_getElem.2 ⟨j,by omega,rfl⟩
        exact decide_eq_false (ho _ this)
      unfold placeW
      rw [if_pos ((hasW_iff l x).2 (e ▸ List.getElem_mem hi)),e3]
      exact Ev.pos ((tl_eq _ _).2 e) (Ev.pure _)
    · refine Ev.neg (fun h2=>e ((tl_eq _ _).1 h2)) ?_
      rw [wnext i (by omega)]
      refine ih (i+1) (by omega) (fun y hm=>?_)
      rw [List.take_succ_eq_append_getElem hi] at hm
      rcases List.mem_append.1 hm with hm|hm
      · exact ho y hm
      · rw [List.mem_singleton.1 hm];exact e
theorem place_ev (l:List ByteArray) (x:ByteArray) (hl:l.length≤4294967296):Ev (fun k=>spec_l2Place.f k l x) (placeW l x):=by
  unfold spec_l2Place.f
  exact place_l0 l x hl l.length 0 (by omega) (fun w hw=>by cases hw)
theorem of_l2 (ws:List ByteArray) (ho:∀ w ∈ ws,okWord w) (hl:ws.length≤1000000):∀ (n i:Nat),i+n=(prefW ws).length→Ev (fun k=>spec_l2Of.l2 k ws (prefW ws) (i:Int) ((trieW ws).take i)) (trieW ws):=by
  have hle:=prefW_le ws (fun w hw=>(ho w hw).1)
  intro n
  induction n with
  | zero =>
    intro i h
    refine Ev.succ ?_
    simp only [spec_l2Of.l2]
    rw [List.take_of_length_le (by rw [trieW_length];omega)]
    exact Ev.neg (by omega) (Ev.pure _)
  | succ n ih =>
    intro i h
    refine Ev.succ ?_
    simp only [spec_l2Of.l2]
    have hi:i<(prefW ws).length:=by omega
    have hi2:i<(trieW ws).length:=by rw [trieW_length];exact hi
    have hlt:((trieW ws).take i).length=i:=by rw [List.length_take];omega
    refine Ev.pos (by omega) (Ev.pos (by omega) (Ev.bind (has_ev ws _ (by omega)) ?_))
    have hq:=ih (i+1) (by omega)
    rw [List.take_succ_eq_append_getElem hi2,trieW_at ws hi] at hq
    obtain ⟨p,hp⟩:∃ p,p=rdOf ByteArray.empty (prefW ws) (i:Int):=⟨_,rfl⟩
    rw [← hp] at hq ⊢
    have hm:p ∈ prefW ws:=by rw [hp,rd_nat _ hi];exact List.getElem_mem hi
    have hsz:=(prefW_ok ho hm).1
    by_cases h0:0<i
    · have hz:=prefW_nonzero ws h0 hi
      rw [← hp] at hz
      have e1:wrap64 ((p.size:Int) - 1)=((p.size - 1:Nat):Int):=by unfold wrap64;omega
      rw [e1]
      refine Ev.pos (by omega) (Ev.pos (by omega) (Ev.pos (by omega) (Ev.pos (by omega) (Ev.bind (place_ev _ _ (by omega)) (Ev.pos (by omega) ?_)))))
      rw [wnext i (by omega)]
      have e2:(⟨(bt p ((p.size - 1:Nat):Int) - 97) % 256,placeW (prefW ws) (p.extract 0 (((p.size - 1:Nat):Int)).toNat),hasW ws p⟩:IN)=nodeW (prefW ws) ws p:=by
        unfold nodeW placeW
        rw [if_neg hz,Int.toNat_natCast,if_pos ((hasW_iff _ _).2 (prefW_closed hm))]
        have e3:((p.size - 1:Nat):Int)=(p.size:Int) - 1:=by omega
        rw [e3]
        congr 1
        omega
      rw [e2]
      exact hq
    · have hi0:i=0:=by omega
      have hz:p.size=0:=by
        rw [hp,hi0]
        have:=prefW_zero ws
        rw [show ((0:Nat):Int)=0 from rfl,this];rfl
      rw [node_root hz] at hq
      refine Ev.neg (by omega) (Ev.pos (by omega) ?_)
      rw [wnext i (by omega)]
      exact hq
theorem pfx_le (w:ByteArray) (n:Nat) (x:ByteArray) (h:x ∈ pfx w n):x.size≤w.size:=by
  obtain ⟨j,_,rfl⟩:=List.mem_map.1 h
  rw [ByteArray.size_extract];omega
theorem allPfx_size {ws:List ByteArray} (ho:∀ w ∈ ws,okWord w) {x:ByteArray} (h:x ∈ allPfx ws):x.size≤12:=by
  unfold allPfx at h
  rcases List.mem_cons.1 h with rfl|h
  · exact Nat.zero_le _
  · obtain ⟨w,hw,hx⟩:=List.mem_flatMap.1 h
    exact Nat.le_trans (pfx_le w _ x hx) (ho w hw).1
theorem of_l0 (ws:List ByteArray) (ho:∀ w ∈ ws,okWord w) (hl:ws.length≤1000000):∀ (n i:Nat),i+n=ws.length→Ev (fun k=>spec_l2Of.l0 k ws (setW (allPfx (ws.take i))) (i:Int)) (trieW ws):=by
  intro n
  induction n with
  | zero =>
    intro i h
    refine Ev.succ ?_
    simp only [spec_l2Of.l0]
    rw [List.take_of_length_le (by omega)]
    refine Ev.neg (by omega) ?_
    have:=of_l2 ws ho hl (prefW ws).length 0 (by omega)
    exact this
  | succ n ih =>
    intro i h
    have hi:i<ws.length:=by omega
    have hok:=ho _ (List.getElem_mem hi)
    refine Ev.succ ?_
    simp only [spec_l2Of.l0]
    refine Ev.pos (by omega) ?_
    have hot:∀ w ∈ ws.take i,okWord w:=fun w hw=>ho w (List.mem_of_mem_take hw)
    have hal:=allPfx_len (ws.take i) (fun w hw=>(hot w hw).1)
    rw [List.length_take] at hal
    have key:∀ (m j:Nat),j+m=ws[i].size→Ev (fun k=>spec_l2Of.l1 k ws (setW (allPfx (ws.take i) ++ pfx ws[i] j)) (i:Int) ((j:Int)+1)) (trieW ws):=by
      intro m
      induction m with
      | zero =>
        intro j hj
        refine Ev.succ ?_
        simp only [spec_l2Of.l1,rd_nat ws hi]
        refine Ev.pos (by omega) (Ev.pos (by omega) (Ev.neg (by omega) ?_))
        rw [wnext i (by omega)]
        have hq:=ih (i+1) (by omega)
        rw [allPfx_take ws i hi,rd_nat ws hi] at hq
        have:j=ws[i].size:=by omega
        rw [this]
        exact hq
      | succ m ihm =>
        intro j hj
        refine Ev.succ ?_
        simp only [spec_l2Of.l1,rd_nat ws hi]
        have h12:=hok.1
        have hln:=setW_len (allPfx (ws.take i) ++ pfx ws[i] j)
        rw [List.length_append,pfx_length] at hln
        refine Ev.pos (by omega) (Ev.pos (by omega) (Ev.pos (by omega) (Ev.pos (by omega) (Ev.bind (put_ev _ _ (by omega) (fun x hx=>?_) (setW_ss _)) ?_))))
        · rcases List.mem_append.1 (mem_setW.1 hx) with hx|hx
          · have:=allPfx_size hot hx;omega
          · have:=pfx_le _ _ _ hx;omega
        · have e1:wrap64 ((j:Int)+1+1)=((j+1:Nat):Int)+1:=by unfold wrap64;omega
          have e2:((j:Int)+1).toNat=j+1:=by omega
          rw [e1,e2,setW_cons_set,List.append_assoc,← pfx_succ]
          exact ihm (j+1) (by omega)
    have:=key ws[i].size 0 (by omega)
    have e:pfx ws[i] 0=[]:=rfl
    rw [e,List.append_nil] at this
    exact this
theorem of_ev (ws:List ByteArray) (ho:∀ w ∈ ws,okWord w) (hl:ws.length≤1000000):Ev (fun k=>spec_l2Of.f k ws) (trieW ws):=by
  unfold spec_l2Of.f
  have:=of_l0 ws ho hl ws.length 0 (by omega)
  have e:setW (allPfx (ws.take 0))=[⟨#[]⟩]:=ss_ext (setW_ss _) (List.pairwise_singleton _ _) (fun x=>by rw [mem_setW];exact Iff.rfl)
  rw [e] at this
  exact this
end Go.Proofs.Ytghkbgmbbcaecaa.Q
namespace Go.Proofs.Ytghkbgmbbcaecaa.Q
open Go.RowKit Go.Proofs.YtghkbgmbbcaecaaW.PrintWords Go.Proofs.YtghkbgmbbcaecaaW.PrintLast
def qm:ByteArray:=⟨#[63]⟩
def prefX:Nat→List IN→Int→ByteArray→ByteArray
  | 0,_,node,s=>if node=0 then s else qm
  | n+1,l,node,s =>
    if node > 0 then
      (if 0≤(rT l node).f0∧(rT l node).f0≤25 then
        (if (rT l node).f1 ≥ node then qm else prefX n l (rT l node).f1 (letterW (rT l node).f0 ++ s)) else qm)
    else if node=0 then s else qm
theorem prefix_l0 (l:List IN):∀ (n:Nat) (node:Int) (s:ByteArray),node<l.length→s.size+n=13→Ev (fun k=>spec_l2Prefix.l0 k node s l) (prefX n l node s):=by
  intro n
  induction n with
  | zero =>
    intro node s hn hs
    refine Ev.succ ?_
    simp only [spec_l2Prefix.l0,prefX]
    have key:Ev (fun k=>spec_l2Prefix.j1 k node s false l) (if node=0 then s else qm):=by
      refine Ev.succ ?_
      simp only [spec_l2Prefix.j1]
      refine Ev.neg (by decide) ?_
      by_cases h0:node=0
      · rw [if_pos h0,if_pos h0];exact Ev.pure _
      · rw [if_neg h0,if_neg h0];exact Ev.pure _
    have e:decide ((s.size:Int)≤12)=false:=decide_eq_false (by omega)
    rw [e]
    by_cases h:node > 0
    · exact Ev.pos h key
    · exact Ev.neg h key
  | succ n ih =>
    intro node s hn hs
    refine Ev.succ ?_
    simp only [spec_l2Prefix.l0,prefX]
    by_cases h:node > 0
    · rw [if_pos h]
      refine Ev.pos h (Ev.succ ?_)
      simp only [spec_l2Prefix.j1,l1In_eq,Option.bind_some]
      refine Ev.pos (decide_eq_true (by omega)) (Ev.pos (by omega) (Ev.pos hn ?_))
      by_cases h2:0≤(rT l node).f0∧(rT l node).f0≤25
      · rw [if_pos h2]
        refine Ev.pos (decide_eq_true h2) ?_
        by_cases h3:(rT l node).f1 ≥ node
        · rw [if_pos h3];exact Ev.pos h3 (Ev.pure _)
        · rw [if_neg h3]
          have hls:=letterW_size (rT l node).f0
          unfold letterW at hls
          refine Ev.neg h3 (Ev.pos (by rw [hls];omega) ?_)
          refine ih _ _ (by omega) ?_
          rw [size_app,hls]
          omega
      · rw [if_neg h2]
        exact Ev.neg (fun hf=>h2 (of_decide_eq_true hf)) (Ev.pure _)
    · rw [if_neg h]
      refine Ev.neg h (Ev.succ ?_)
      simp only [spec_l2Prefix.j1]
      refine Ev.neg (by decide) ?_
      by_cases h0:node=0
      · rw [if_pos h0,if_pos h0];exact Ev.pure _
      · rw [if_neg h0,if_neg h0];exact Ev.pure _
theorem prefix_ev (l:List IN) (node:Int) (h:node<l.length):Ev (fun k=>spec_l2Prefix.f k l node) (prefX 13 l node ByteArray.empty):=by
  unfold spec_l2Prefix.f
  exact prefix_l0 l 13 node ByteArray.empty h rfl
def wordsX (l:List IN):List Nat→List ByteArray
  | []=>[]
  | i :: r=>if (rT l (i:Int)).f2=true then prefX 13 l (i:Int) ByteArray.empty :: wordsX l r else wordsX l r
theorem words_l0X (l:List IN) (hl:l.length≤1048576):∀ (n i:Nat) (acc:List ByteArray),i+n=l.length→acc.length≤i→Ev (fun k=>spec_l2Words.l0 k acc (i:Int) l) (acc ++ wordsX l (List.range' i n)):=by
  intro n
  induction n with
  | zero =>
    intro i acc h ha
    refine Ev.succ ?_
    simp only [spec_l2Words.l0,List.range'_zero,wordsX,List.append_nil]
    exact Ev.neg (by omega) (Ev.pure _)
  | succ n ih =>
    intro i acc h ha
    refine Ev.succ ?_
    simp only [spec_l2Words.l0,List.range'_succ,wordsX]
    refine Ev.pos (by omega) (Ev.pos (by omega) ?_)
    rw [wnext i (by omega)]
    by_cases e:(rT l (i:Int)).f2=true
    · rw [if_pos e]
      refine Ev.pos e (Ev.bind (prefix_ev l (i:Int) (by omega)) (Ev.pos (by omega) ?_))
      have:=ih (i+1) (acc ++ [prefX 13 l (i:Int) ByteArray.empty]) (by omega) (by simp;omega)
      simpa using this
    · rw [if_neg e]
      exact Ev.neg e (ih (i+1) acc (by omega) (by omega))
def wordsS (l:List IN):List ByteArray:=wordsX l (List.range' 0 l.length)
theorem wordsS_ev (l:List IN) (hl:l.length≤1048576):Ev (fun k=>spec_l2Words.f k l) (wordsS l):=by
  unfold spec_l2Words.f
  have:=words_l0X l hl l.length 0 [] (by omega) (Nat.le_refl _)
  simpa [wordsS] using this
theorem wordsX_length (l:List IN):∀ r,(wordsX l r).length≤r.length
  | []=>Nat.le_refl _
  | i :: r=>by
    have:=wordsX_length l r
    simp only [wordsX]
    split <;> simp <;> omega
theorem prefX_trie (ws:List ByteArray) (ho:∀ w ∈ ws,okWord w):∀ (n i:Nat) (s:ByteArray),i<(prefW ws).length→(rdOf ByteArray.empty (prefW ws) (i:Int)).size<n→prefX n (trieW ws) (i:Int) s=rdOf ByteArray.empty (prefW ws) (i:Int) ++ s:=by
  intro n
  induction n with
  | zero=>intro i s _ h;exact absurd h (Nat.not_lt_zero _)
  | succ n ih =>
    intro i s hi hs
    simp only [prefX]
    by_cases h0:0<i
    · have hi2:i<(trieW ws).length:=by rw [trieW_length];exact hi
      rw [if_pos (by omega),rd_nat' _ i hi2,trieW_at ws hi]
      obtain ⟨j,hj,e0,e1,e2,e3,e4⟩:=node_at ws ho h0 hi
      rw [if_pos ⟨e2,e3⟩,e1,if_neg (by omega),ih j _ (by omega) ?_]
      · apply lw_inj
        rw [lw_app,lw_app,← List.append_assoc,← lw_app,e4,lw_app]
      · rw [e0,ByteArray.size_extract]
        have:=prefW_nonzero ws h0 hi
        omega
    · obtain rfl:i=0:=by omega
      rw [if_neg (by omega),if_pos (by omega)]
      have:=prefW_zero ws
      rw [show ((0:Nat):Int)=0 from rfl,this]
      apply lw_inj
      rw [lw_app];rfl
theorem app_empty (a:ByteArray):a ++ ByteArray.empty=a:=lw_inj (by rw [lw_app];exact List.append_nil _)
theorem prefX_trie13 {ws:List ByteArray} (ho:∀ w ∈ ws,okWord w) {i:Nat} (hi:i<(prefW ws).length):prefX 13 (trieW ws) (i:Int) ByteArray.empty=rdOf ByteArray.empty (prefW ws) (i:Int):=by
  have hm:rdOf ByteArray.empty (prefW ws) (i:Int) ∈ prefW ws:=by rw [rd_nat _ hi];exact List.getElem_mem hi
  have:=(prefW_ok ho hm).1
  rw [prefX_trie ws ho 13 i _ hi (by omega),app_empty]
theorem wordsX_trie {ws:List ByteArray} (ho:∀ w ∈ ws,okWord w):∀ (n i:Nat),i+n=(prefW ws).length→wordsX (trieW ws) (List.range' i n)=((prefW ws).drop i).filter fun p=>hasW ws p:=by
  intro n
  induction n with
  | zero =>
    intro i h
    rw [List.drop_of_length_le (by omega)]
    rfl
  | succ n ih =>
    intro i h
    have hi:i<(prefW ws).length:=by omega
    have hi2:i<(trieW ws).length:=by rw [trieW_length];exact hi
    rw [List.range'_succ,List.drop_eq_getElem_cons hi,List.filter_cons]
    simp only [wordsX]
    rw [rd_nat' _ i hi2,trieW_at ws hi,prefX_trie13 ho hi,ih (i+1) (by omega),rd_nat _ hi]
    have e:(nodeW (prefW ws) ws (prefW ws)[i]).f2=hasW ws (prefW ws)[i]:=by unfold nodeW;split <;> rfl
    rw [e]
theorem wordsS_trie {ws:List ByteArray} (h:VW ws):wordsS (trieW ws)=ws:=by
  unfold wordsS
  rw [trieW_length,wordsX_trie h.ok _ 0 (by omega),List.drop_zero,filter_ws h.ss]
def isTrieS (l:List IN):Bool:=decide (1≤l.length∧l.length≤481) && ((setRes (wordsS l)).2 && decide (trieW (setRes (wordsS l)).1=l))
theorem trieS_ev (l:List IN):Ev (fun k=>spec_l2Trie.f k l) (isTrieS l):=by
  unfold spec_l2Trie.f isTrieS
  simp only [l1In_eq,Option.bind_some]
  by_cases h:1≤l.length∧l.length≤481
  · rw [decide_eq_true h,Bool.true_and]
    have hwl:=wordsX_length l (List.range' 0 l.length)
    rw [List.length_range'] at hwl
    refine Ev.pos (decide_eq_true (by omega)) (Ev.bind (wordsS_ev l (by omega)) (Ev.bind (set_ev _ (by unfold wordsS;omega)) ?_))
    by_cases h2:(setRes (wordsS l)).2=true
    · rw [h2,Bool.true_and]
      refine Ev.pos rfl ?_
      have hok:∀ w ∈ wordsS l,okWord w:=by
        unfold setRes at h2
        split at h2
        · assumption
        · cases h2
      have e1:(setRes (wordsS l)).1=setW (wordsS l):=by unfold setRes;rw [if_pos hok]
      rw [e1]
      have hok2:∀ w ∈ setW (wordsS l),okWord w:=fun w hw=>hok w (mem_setW.1 hw)
      have hl2:=setW_len (wordsS l)
      have hl3:(wordsS l).length≤l.length:=hwl
      have hle:=prefW_le (setW (wordsS l)) (fun w hw=>(hok2 w hw).1)
      exact Ev.bind (of_ev _ hok2 (by omega)) (Ev.bind (same_ev _ _ (by rw [trieW_length];omega)) (Ev.pure _))
    · rw [Bool.not_eq_true] at h2
      rw [h2,Bool.false_and]
      exact Ev.neg (by decide) (Ev.pure _)
  · rw [decide_eq_false h,Bool.false_and]
    exact Ev.neg (fun hf=>h (by have:=of_decide_eq_true hf;omega)) (Ev.pure _)
theorem isTrieS_iff (l:List IN):isTrieS l=true ↔ V l:=by
  constructor
  · intro h
    unfold isTrieS at h
    simp only [Bool.and_eq_true,decide_eq_true_eq] at h
    obtain ⟨_,h2,h3⟩:=h
    unfold setRes at h2 h3
    split at h2
    · rename_i hok
      rw [if_pos hok] at h3
      simp only [decide_eq_true_eq] at h2
      exact ⟨_,⟨setW_ss _,fun w hw=>hok w (mem_setW.1 hw),by omega⟩,h3.symm⟩
    · cases h2
  · rintro ⟨ws,h,rfl⟩
    unfold isTrieS
    have h1:=prefW_pos ws
    have h2:=prefW_le ws (fun w hw=>(h.ok w hw).1)
    have h3:=h.len
    have e:setRes (wordsS (trieW ws))=(ws,true):=by
      rw [wordsS_trie h]
      unfold setRes
      rw [if_pos h.ok,setW_of_ss h.ss,decide_eq_true (by omega)]
    rw [e,trieW_length]
    simp
    omega
theorem trie_same (l:List IN):isTrieS l=isTrieW l:=by rw [Bool.eq_iff_iff,isTrieS_iff,isTrieW_iff]
end Go.Proofs.Ytghkbgmbbcaecaa.Q
namespace Go.Proofs.Ytghkbgmbbcaecaa.Q
open Go.RowKit Go.Proofs.YtghkbgmbbcaecaaW.PrintWords Go.Proofs.YtghkbgmbbcaecaaW.PrintLast
theorem trie_cases (l:List IN):isTrieW l=false∨∃ ws,VW ws∧l=trieW ws∧isTrieW l=true:=by
  cases h:isTrieW l with
  | false=>exact .inl rfl
  | true=>obtain ⟨ws,hv,e⟩:=(isTrieW_iff l).1 h;exact .inr ⟨ws,hv,e,rfl⟩
theorem specT (l:List IN) {b:Bool} (h:isTrieW l=b):Ev (fun k=>spec_l2Trie.f k l) b:=by rw [← h,← trie_same];exact trieS_ev l
theorem implT (l:List IN) {b:Bool} (h:isTrieW l=b):Ev (fun k=>impl_isTrie.f k l) b:=h ▸ isTrie_ev l
theorem trie_le {ws:List ByteArray} (h:VW ws):(trieW ws).length≤481:=by
  have h2:=prefW_le ws (fun w hw=>(h.ok w hw).1)
  have h3:=h.len
  rw [trieW_length]
  omega
theorem implPrefixes {ws:List ByteArray} (h:VW ws):Ev (fun k=>impl_Trie_prefixes.f k (trieW ws)) (prefW ws,true):=by
  have:=prefixes_ev (trieW ws)
  rwa [prefixesW_trie h] at this
theorem specPrefix {ws:List ByteArray} (h:VW ws) {i:Int} (h0:0≤i) (h1:i<((trieW ws).length:Int)):Ev (fun k=>spec_l2Prefix.f k (trieW ws) i) (rdOf ByteArray.empty (prefW ws) i):=by
  have:=prefix_ev (trieW ws) i h1
  obtain ⟨n,rfl⟩:∃ n:Nat,i=(n:Int):=⟨i.toNat,by omega⟩
  rwa [prefX_trie13 h.ok (by rw [trieW_length] at h1;omega)] at this
end Go.Proofs.Ytghkbgmbbcaecaa.Q
namespace Go.Proofs.Ytghkbgmbbcaecaa.Q
open Go.RowKit Go.Proofs.YtghkbgmbbcaecaaW.PrintWords Go.Proofs.YtghkbgmbbcaecaaW.PrintLast
theorem rd_trieW (ws:List ByteArray) {i:Nat} (hi:i<(prefW ws).length):rT (trieW ws) (i:Int)=nodeW (prefW ws) ws (rdOf ByteArray.empty (prefW ws) (i:Int)):=by
  rw [rd_nat' _ i (by rw [trieW_length];exact hi),trieW_at ws hi]
theorem node0 (ws:List ByteArray):(rT (trieW ws) ((0:Nat):Int)).f1=-1:=by
  rw [rd_trieW ws (prefW_pos ws)]
  have h:=prefW_zero ws
  rw [show ((0:Nat):Int)=0 from rfl,h]
  rfl
theorem par_lt {ws:List ByteArray} (ho:∀ w ∈ ws,okWord w) {i:Nat} (hi:i<(prefW ws).length):(rT (trieW ws) (i:Int)).f1<(i:Int):=by
  by_cases h0:0<i
  · rw [rd_trieW ws hi]
    obtain ⟨m,hm,_,e1,_,_,_⟩:=node_at ws ho h0 hi
    rw [e1];omega
  · obtain rfl:i=0:=by omega
    rw [node0];omega
theorem par_at {ws:List ByteArray} (ho:∀ w ∈ ws,okWord w) {i:Nat} (h0:0<i) (hi:i<(prefW ws).length):∃ j c,j<i∧(rT (trieW ws) (i:Int)).f1=(j:Int)∧(rT (trieW ws) (i:Int)).f0=c∧0≤c∧c≤25∧rdOf ByteArray.empty (prefW ws) (i:Int)=rdOf ByteArray.empty (prefW ws) (j:Int) ++ letterW c:=by
  rw [rd_trieW ws hi]
  obtain ⟨m,hm,_,e1,e2,e3,e4⟩:=node_at ws ho h0 hi
  exact ⟨m,_,hm,e1,rfl,e2,e3,e4.symm⟩
def kidsF (l:List IN) (a:Int):List Nat→List Int
  | []=>[]
  | i :: r=>if (rT l (i:Int)).f1=a then (i:Int) :: kidsF l a r else kidsF l a r
def kidsW (l:List IN) (a:Int):List Int:=kidsF l a (List.range' 0 l.length)
theorem kidsF_append (l:List IN) (a:Int) (x y:List Nat):kidsF l a (x ++ y)=kidsF l a x ++ kidsF l a y:=by
  induction x with
  | nil=>rfl
  | cons i x ih=>simp only [List.cons_append,kidsF,ih];split <;> rfl
theorem kidsF_nil (l:List IN) (a:Int):∀ (x:List Nat),(∀ i ∈ x,(rT l (i:Int)).f1 ≠ a)→kidsF l a x=[]
  | [],_=>rfl
  | i :: x,h=>by
    simp only [kidsF]
    rw [if_neg (h i (List.mem_cons_self ..))]
    exact kidsF_nil l a x (fun j hj=>h j (List.mem_cons_of_mem _ hj))
end Go.Proofs.Ytghkbgmbbcaecaa.Q
namespace Go.Proofs.Ytghkbgmbbcaecaa.Q
open Go.RowKit Go.Proofs.YtghkbgmbbcaecaaW.PrintWords Go.Proofs.YtghkbgmbbcaecaaW.PrintLast
theorem specKids_l0 (l:List IN) (a:Int) (hl:l.length≤1048576):∀ (n i:Nat) (acc:List Int),i+n=l.length→acc.length≤i→Ev (fun k=>spec_l2Kids.l0 k a acc (i:Int) l) (acc ++ kidsF l a (List.range' i n)):=by
  intro n
  induction n with
  | zero =>
    intro i acc h ha
    refine Ev.succ ?_
    simp only [spec_l2Kids.l0,List.range'_zero,kidsF,List.append_nil]
    exact Ev.neg (by omega) (Ev.pure _)
  | succ n ih =>
    intro i acc h ha
    refine Ev.succ ?_
    simp only [spec_l2Kids.l0,List.range'_succ,kidsF]
    rw [wnext i (by omega)]
    refine Ev.pos (by omega) (Ev.pos (by omega) ?_)
    by_cases e:(rT l (i:Int)).f1=a
    · rw [if_pos e]
      refine Ev.pos e (Ev.pos (by omega) ?_)
      have:=ih (i+1) (acc ++ [(i:Int)]) (by omega) (by simp;omega)
      simpa using this
    · rw [if_neg e]
      exact Ev.neg e (ih (i+1) acc (by omega) (by omega))
theorem implKids_l0 (l:List IN) (a:Int) (hl:l.length≤1048576):∀ (n i:Nat) (acc:List Int),i+n=l.length→acc.length≤i→Ev (fun k=>impl_Trie_kids.l0 k a acc l (l.length:Int) (i:Int)) (acc ++ kidsF l a (List.range' i n)):=by
  intro n
  induction n with
  | zero =>
    intro i acc h ha
    refine Ev.succ ?_
    simp only [impl_Trie_kids.l0,List.range'_zero,kidsF,List.append_nil]
    exact Ev.neg (by omega) (Ev.pure _)
  | succ n ih =>
    intro i acc h ha
    refine Ev.succ ?_
    simp only [impl_Trie_kids.l0,List.range'_succ,kidsF]
    rw [wnext i (by omega)]
    refine Ev.pos (by omega) (Ev.pos (by omega) (Ev.pos (by omega) ?_))
    by_cases e:(rT l (i:Int)).f1=a
    · rw [if_pos e]
      refine Ev.pos e (Ev.pos (by omega) ?_)
      have:=ih (i+1) (acc ++ [(i:Int)]) (by omega) (by simp;omega)
      simpa using this
    · rw [if_neg e]
      exact Ev.neg e (ih (i+1) acc (by omega) (by omega))
theorem implKids (l:List IN) (a:Int) (hl:l.length≤1048576):Ev (fun k=>impl_Trie_kids.f k l a) (kidsW l a):=by
  unfold impl_Trie_kids.f
  exact implKids_l0 l a hl l.length 0 [] (by omega) (Nat.le_refl _)
theorem specKids {ws:List ByteArray} (hv:VW ws) (a:Nat) (ha:a<(prefW ws).length):Ev (fun k=>spec_l2Kids.f k (trieW ws) (a:Int)) (kidsW (trieW ws) (a:Int)):=by
  have hn:=trie_le hv
  have hn2:=trieW_length ws
  unfold spec_l2Kids.f
  rw [wnext a (by omega)]
  have:=specKids_l0 (trieW ws) (a:Int) (by omega) ((trieW ws).length - (a+1)) (a+1) [] (by omega) (Nat.zero_le _)
  rw [List.nil_append] at this
  have e:kidsW (trieW ws) (a:Int)=kidsF (trieW ws) (a:Int) (List.range' (a+1) ((trieW ws).length - (a+1))):=by
    unfold kidsW
    have e2:List.range' 0 (trieW ws).length=List.range' 0 (a+1) ++ List.range' (a+1) ((trieW ws).length - (a+1)):=by
      have:=List.range'_append_1 (s:=0) (m:=a+1) (n:=(trieW ws).length - (a+1))
      rw [Nat.zero_add] at this
      rw [this]
      congr 1
      omega
    rw [e2,kidsF_append,kidsF_nil _ _ (List.range' 0 (a+1)),List.nil_append]
    intro i hi
    have hi2:=(List.mem_range'_1.1 hi).2
    have:=par_lt hv.ok (i:=i) (by omega)
    omega
  rw [e]
  exact this
end Go.Proofs.Ytghkbgmbbcaecaa.Q
namespace Go.Proofs.Ytghkbgmbbcaecaa.Q
open Go.RowKit Go.Proofs.YtghkbgmbbcaecaaW.PrintWords Go.Proofs.YtghkbgmbbcaecaaW.PrintLast
def stayB (l:List IN) (a:Int):Bool:=decide (a=0) || ((rT l a).f2 || (((kidsW l a).length:Int) != 1))
def stayF (l:List IN):List Nat→List Int
  | []=>[]
  | i :: r=>if stayB l (i:Int)=true then (i:Int) :: stayF l r else stayF l r
theorem stayF_len (l:List IN):∀ r,(stayF l r).length≤r.length
  | []=>Nat.le_refl _
  | i :: r=>by
    have:=stayF_len l r
    simp only [stayF]
    split <;> simp <;> omega
theorem specStays {ws:List ByteArray} (hv:VW ws) (i:Nat) (hi:i<(prefW ws).length):Ev (fun k=>spec_l4Stays.f k (trieW ws) (i:Int)) (stayB (trieW ws) (i:Int)):=by
  have hn2:=trieW_length ws
  unfold spec_l4Stays.f stayB
  by_cases h0:(i:Int)=0
  · rw [decide_eq_true h0,Bool.true_or];exact Ev.pos h0 (Ev.pure _)
  · rw [decide_eq_false h0,Bool.false_or]
    refine Ev.neg h0 (Ev.pos (by omega) (Ev.pos (by omega) ?_))
    by_cases h2:(rT (trieW ws) (i:Int)).f2=true
    · rw [h2,Bool.true_or];exact Ev.pos rfl (Ev.pure _)
    · rw [Bool.eq_false_iff.2 h2,Bool.false_or]
      exact Ev.neg (by decide) (Ev.bind (specKids hv i hi) (Ev.pure _))
theorem implStays {ws:List ByteArray} (hv:VW ws) (i:Nat) (hi:i<(prefW ws).length):Ev (fun k=>impl_Trie_stays.f k (trieW ws) (i:Int)) (stayB (trieW ws) (i:Int)):=by
  have hn2:=trieW_length ws
  have hn:=trie_le hv
  unfold impl_Trie_stays.f stayB
  by_cases h0:(i:Int)=0
  · rw [decide_eq_true h0,Bool.true_or];exact Ev.pos h0 (Ev.pure _)
  · rw [decide_eq_false h0,Bool.false_or]
    refine Ev.neg h0 (Ev.pos (by omega) (Ev.pos (by omega) ?_))
    by_cases h2:(rT (trieW ws) (i:Int)).f2=true
    · rw [h2,Bool.true_or];exact Ev.pos rfl (Ev.pure _)
    · rw [Bool.eq_false_iff.2 h2,Bool.false_or]
      exact Ev.neg (by decide) (Ev.bind (implKids (trieW ws) (i:Int) (by omega)) (Ev.pure _))
theorem specStaying {ws:List ByteArray} (hv:VW ws):Ev (fun k=>spec_l4Staying.f k (trieW ws)) (stayF (trieW ws) (List.range' 0 (trieW ws).length)):=by
  have hn2:=trieW_length ws
  have hn:=trie_le hv
  unfold spec_l4Staying.f
  have key:∀ (n i:Nat) (acc:List Int),i+n=(trieW ws).length→acc.length≤i→Ev (fun k=>spec_l4Staying.l0 k acc (i:Int) (trieW ws)) (acc ++ stayF (trieW ws) (List.range' i n)):=by
    intro n
    induction n with
    | zero =>
      intro i acc h ha
      refine Ev.succ ?_
      simp only [spec_l4Staying.l0,List.range'_zero,stayF,List.append_nil]
      exact Ev.neg (by omega) (Ev.pure _)
    | succ n ih =>
      intro i acc h ha
      refine Ev.succ ?_
      simp only [spec_l4Staying.l0,List.range'_succ,stayF]
      rw [wnext i (by omega)]
      refine Ev.pos (by omega) (Ev.bind (specStays hv i (by omega)) ?_)
      by_cases e:stayB (trieW ws) (i:Int)=true
      · rw [if_pos e]
        have:=ih (i+1) (acc ++ [(i:Int)]) (by omega) (by simp;omega)
        rw [List.append_assoc] at this
        exact Ev.pos e (Ev.pos (by omega) this)
      · rw [if_neg e]
        exact Ev.neg e (ih (i+1) acc (by omega) (by omega))
  exact key _ 0 [] (by omega) (Nat.le_refl _)
end Go.Proofs.Ytghkbgmbbcaecaa.Q
namespace Go.Proofs.Ytghkbgmbbcaecaa.Q
open Go.RowKit Go.Proofs.YtghkbgmbbcaecaaW.PrintWords Go.Proofs.YtghkbgmbbcaecaaW.PrintLast
theorem digW_size (n:Int):(strOfNums ([(wrap64 (48+(Int.tmod n 10))) % 256]:List Int)).size=1:=rfl
theorem markText_l0:∀ (d n:Nat) (s:ByteArray),n<10 ^ d→d≤20→n≤9223372036854775807→s.size+d≤40→∃ r,Ev (fun k=>laws_markText.l0 k (n:Int) s) r:=by
  intro d
  induction d with
  | zero =>
    intro n s h hd hn hs
    obtain rfl:n=0:=by simpa using h
    refine ⟨⟨#[109]⟩ ++ s,Ev.succ ?_⟩
    simp only [laws_markText.l0]
    exact Ev.neg (by decide) (Ev.pos (by omega) (Ev.pure _))
  | succ d ih =>
    intro n s h hd hn hs
    by_cases h0:n=0
    · subst h0
      refine ⟨⟨#[109]⟩ ++ s,Ev.succ ?_⟩
      simp only [laws_markText.l0]
      exact Ev.neg (by decide) (Ev.pos (by omega) (Ev.pure _))
    · have hz:=digW_size (n:Int)
      have hq:n / 10<10 ^ d:=by rw [Nat.pow_succ] at h;omega
      have e:wrap64 (Int.tdiv (n:Int) 10)=((n / 10:Nat):Int):=by
        have:Int.tdiv (n:Int) 10=((n / 10:Nat):Int):=by rw [Int.tdiv_eq_ediv_of_nonneg (by omega)];omega
        rw [this];unfold wrap64;omega
      obtain ⟨r,hr⟩:=ih (n / 10) (strOfNums ([(wrap64 (48+(Int.tmod (n:Int) 10))) % 256]:List Int) ++ s) hq (by omega) (by omega) (by rw [ByteArray.size_append,hz];omega)
      refine ⟨r,Ev.succ ?_⟩
      simp only [laws_markText.l0,e,Option.bind_some]
      refine Ev.pos (by omega) (Ev.pos (by rw [hz];omega) hr)
theorem markText_ev (n:Nat) (h0:0<n) (h:n≤9223372036854775807):∃ r,Ev (fun k=>laws_markText.f k (n:Int)) r:=by
  obtain ⟨r,hr⟩:=markText_l0 20 n ⟨#[]⟩ (by omega) (Nat.le_refl _) h (by decide)
  refine ⟨r,?_⟩
  unfold laws_markText.f
  exact Ev.neg (by omega) hr
end Go.Proofs.Ytghkbgmbbcaecaa.Q
namespace Go.Proofs.Ytghkbgmbbcaecaa.Q
open Go.RowKit Go.Proofs.YtghkbgmbbcaecaaW.PrintWords Go.Proofs.YtghkbgmbbcaecaaW.PrintLast
abbrev BN:=S69
theorem rdB_nat (l:List BN) (i:Nat) (h:i<l.length):rd_T69 l (i:Int)=l[i]:=by simp [rd_T69,h]
theorem eqB_l0 (a:List BN) (hl:a.length≤1048576):∀ (n i:Nat),i+n=a.length→Ev (fun k=>laws_eqBranchS.l0 k a a (i:Int)) true:=by
  intro n
  induction n with
  | zero =>
    intro i h
    refine Ev.succ ?_
    simp only [laws_eqBranchS.l0]
    exact Ev.neg (by omega) (Ev.pure _)
  | succ n ih =>
    intro i h
    have c1:(i:Int)<(a.length:Int):=by omega
    refine Ev.succ ?_
    simp only [laws_eqBranchS.l0,laws_eqBranch.f]
    rw [wnext i (by omega)]
    refine Ev.pos c1 (Ev.pos (by omega) (Ev.pos c1 (Ev.bindc (t:=true) ?_ (Ev.pos rfl (ih (i+1) (by omega))))))
    simp
theorem eqPressed_ev (a b:List BN) (hl:a.length≤1048576):Ev (fun k=>laws_eqPressed.f k a a) true:=by
  unfold laws_eqPressed.f laws_eqBranchS.f
  exact Ev.bind (Ev.pos rfl (eqB_l0 a hl a.length 0 (by omega))) (Ev.pos rfl (Ev.pure _))
theorem markT_fun:∃ T:Nat→ByteArray,∀ n:Nat,0<n→n≤9223372036854775807→Ev (fun k=>laws_markText.f k (n:Int)) (T n) :=
  ⟨fun n=>if h:0<n∧n≤9223372036854775807 then Classical.choose (markText_ev n h.1 h.2) else ByteArray.empty,fun n h0 h1=>by
    simp only [dif_pos (And.intro h0 h1)]
    exact Classical.choose_spec (markText_ev n h0 h1)⟩
def mkB (T:Nat→ByteArray) (i:Nat):BN:=⟨T (1+3 * i),((2+3 * i:Nat):Int),(Int.tmod ((3+3 * i:Nat):Int) 3 == 0)⟩
theorem markP_l0 (T:Nat→ByteArray) (hT:∀ n:Nat,0<n→n≤9223372036854775807→Ev (fun k=>laws_markText.f k (n:Int)) (T n)):∀ (d:Nat) (l:List BN) (i:Nat),i+d=l.length→l.length≤1048576→(∀ j (h:j<l.length),j<i→l[j]=mkB T j) →
    ∃ ms:List BN,ms.length=l.length∧(∀ j (h:j<ms.length),ms[j]=mkB T j)∧Ev (fun k=>laws_markBranchS.l0 k l ((1+3 * i:Nat):Int) (i:Int)) (((1+3 * l.length:Nat):Int),ms):=by
  intro d
  induction d with
  | zero =>
    intro l i h hl hm
    refine ⟨l,rfl,fun j hj=>hm j hj (by omega),Ev.succ ?_⟩
    simp only [laws_markBranchS.l0]
    obtain rfl:i=l.length:=by omega
    exact Ev.neg (by omega) (Ev.pure _)
  | succ d ih =>
    intro l i h hl hm
    have hi:i<l.length:=by omega
    have e1:wrap64 (((1+3 * i:Nat):Int)+1)=((2+3 * i:Nat):Int):=by unfold wrap64;omega
    have e2:wrap64 (((2+3 * i:Nat):Int)+1)=((3+3 * i:Nat):Int):=by unfold wrap64;omega
    have e3:wrap64 (((3+3 * i:Nat):Int)+1)=((1+3 * (i+1):Nat):Int):=by unfold wrap64;omega
    obtain ⟨y,hy⟩:∃ y,y=l.set (i:Int).toNat (⟨T (1+3 * i),(rd_T69 l (i:Int)).f1,(rd_T69 l (i:Int)).f2⟩:BN):=⟨_,rfl⟩
    have hyi:rd_T69 y (i:Int)=⟨T (1+3 * i),(rd_T69 l (i:Int)).f1,(rd_T69 l (i:Int)).f2⟩:=by
      rw [rdB_nat y i (by rw [hy,List.length_set];exact hi)]
      simp [hy]
    obtain ⟨z,hz⟩:∃ z,z=y.set (i:Int).toNat (⟨(rd_T69 y (i:Int)).f0,((2+3 * i:Nat):Int),(rd_T69 y (i:Int)).f2⟩:BN):=⟨_,rfl⟩
    have hyl:y.length=l.length:=by rw [hy,List.length_set]
    have hzl:z.length=l.length:=by rw [hz,List.length_set,hyl]
    have hzi:rd_T69 z (i:Int)=⟨T (1+3 * i),((2+3 * i:Nat):Int),(rd_T69 l (i:Int)).f2⟩:=by
      rw [rdB_nat z i (by omega)]
      simp [hz,hyi]
    have hw:z.set (i:Int).toNat ⟨(rd_T69 z (i:Int)).f0,(rd_T69 z (i:Int)).f1,(Int.tmod ((3+3 * i:Nat):Int) 3 == 0)⟩=l.set i (mkB T i):=by
      rw [hzi,hz,hy,Int.toNat_natCast,List.set_set,List.set_set]
      rfl
    obtain ⟨ms,h1,h2,h3⟩:=ih (l.set i (mkB T i)) (i+1) (by rw [List.length_set];omega) (by rw [List.length_set];exact hl) (fun j hj hji=>by
      rw [List.length_set] at hj
      rw [List.getElem_set]
      split
      · rename_i e;subst e;rfl
      · exact hm j hj (by omega))
    rw [List.length_set] at h1 h3
    refine ⟨ms,h1,h2,Ev.succ ?_⟩
    simp only [laws_markBranchS.l0,e1,e2,e3]
    refine Ev.pos (by omega) (Ev.bind (hT (1+3 * i) (by omega) (by omega)) (Ev.pos (by omega) (Ev.bindc (t:=y) (by rw [hy]) (Ev.bindc (t:=z) (by rw [hz]) ?_))))
    rw [wnext i (by omega),hw]
    exact h3
theorem heldP_l0 (T:Nat→ByteArray) (hT:∀ n:Nat,0<n→n≤9223372036854775807→Ev (fun k=>laws_markText.f k (n:Int)) (T n)) (l:List BN) (hl:l.length≤1048576) (hm:∀ j (h:j<l.length),l[j]=mkB T j):∀ (d i:Nat),i+d=l.length→Ev (fun k=>laws_heldBranchS.l0 k l ((1+3 * i:Nat):Int) (i:Int)) ((1+3 * l.length:Nat):Int):=by
  intro d
  induction d with
  | zero =>
    intro i h
    refine Ev.succ ?_
    simp only [laws_heldBranchS.l0]
    obtain rfl:i=l.length:=by omega
    exact Ev.neg (by omega) (Ev.pure _)
  | succ d ih =>
    intro i h
    have hi:i<l.length:=by omega
    have e1:wrap64 (((1+3 * i:Nat):Int)+1)=((2+3 * i:Nat):Int):=by unfold wrap64;omega
    have e2:wrap64 (((2+3 * i:Nat):Int)+1)=((3+3 * i:Nat):Int):=by unfold wrap64;omega
    have e3:wrap64 (((3+3 * i:Nat):Int)+1)=((1+3 * (i+1):Nat):Int):=by unfold wrap64;omega
    have hr:rd_T69 l (i:Int)=mkB T i:=by rw [rdB_nat l i hi];exact hm i hi
    refine Ev.succ ?_
    simp only [laws_heldBranchS.l0,e1,e2,e3,hr]
    rw [wnext i (by omega)]
    exact Ev.pos (by omega) (Ev.pos (by omega) (Ev.bind (hT (1+3 * i) (by omega) (by omega)) (Ev.pos rfl (Ev.pos rfl (Ev.neg (by simp [mkB]) (ih (i+1) (by omega)))))))
theorem markP_ev (l:List BN) (hl:l.length≤1048576):∃ ms:List BN,Ev (fun k=>laws_markPressed.f k l 1) (((1+3 * l.length:Nat):Int),ms)∧Ev (fun k=>laws_heldPressed.f k ms 1) ((1+3 * l.length:Nat):Int):=by
  obtain ⟨T,hT⟩:=markT_fun
  obtain ⟨ms,h1,h2,h3⟩:=markP_l0 T hT l.length l 0 (by omega) hl (fun j _ hj=>absurd hj (Nat.not_lt_zero _))
  refine ⟨ms,?_,?_⟩
  · unfold laws_markPressed.f laws_markBranchS.f;exact Ev.bind h3 (Ev.pure _)
  · unfold laws_heldPressed.f laws_heldBranchS.f
    have:=heldP_l0 T hT ms (by omega) h2 ms.length 0 (by omega)
    rw [h1] at this
    exact Ev.bind this (Ev.neg (by omega) (Ev.pure _))
end Go.Proofs.Ytghkbgmbbcaecaa.Q
namespace Go.Proofs.Ytghkbgmbbcaecaa.Q
open Go.RowKit Go.Proofs.YtghkbgmbbcaecaaW.PrintWords Go.Proofs.YtghkbgmbbcaecaaW.PrintLast
theorem markNodeS_l0:∀ (n:Nat) (l:List IN) (m i:Nat),i+n=l.length→l.length≤1048576→m≤1+3 * i→∃ r:Nat × List IN,Ev (fun k=>laws_markNodeS.l0 k l (m:Int) (i:Int)) ((r.1:Int),r.2):=by
  intro n
  induction n with
  | zero =>
    intro l m i h hl hm
    refine ⟨(m,l),Ev.succ ?_⟩
    simp only [laws_markNodeS.l0]
    exact Ev.neg (by omega) (Ev.pure _)
  | succ n ih =>
    intro l m i h hl hm
    have e1:wrap64 ((m:Int)+1)=((m+1:Nat):Int):=by unfold wrap64;omega
    have e2:wrap64 (((m+1:Nat):Int)+1)=((m+2:Nat):Int):=by unfold wrap64;omega
    have e3:wrap64 (((m+2:Nat):Int)+1)=((m+3:Nat):Int):=by unfold wrap64;omega
    obtain ⟨y,hy⟩:∃ y,y=l.set (i:Int).toNat (⟨(m:Int),(rT l (i:Int)).f1,(rT l (i:Int)).f2⟩:IN):=⟨_,rfl⟩
    obtain ⟨z,hz⟩:∃ z,z=y.set (i:Int).toNat (⟨(rT y (i:Int)).f0,((m+1:Nat):Int),(rT y (i:Int)).f2⟩:IN):=⟨_,rfl⟩
    have hyl:y.length=l.length:=by rw [hy,List.length_set]
    have hzl:z.length=l.length:=by rw [hz,List.length_set,hyl]
    obtain ⟨r,hr⟩:=ih (z.set (i:Int).toNat ⟨(rT z (i:Int)).f0,(rT z (i:Int)).f1,((Int.tmod ((m+2:Nat):Int) 3) == 0)⟩) (m+3) (i+1) (by rw [List.length_set,hzl];omega) (by rw [List.length_set,hzl];exact hl) (by omega)
    refine ⟨r,Ev.succ ?_⟩
    simp only [laws_markNodeS.l0,e1,e2,e3,Option.bind_some]
    rw [wnext i (by omega),← hy,← hz]
    exact Ev.pos (by omega) (Ev.pos (by omega) hr)
theorem markTrie_ev (l:List IN) (hl:l.length≤1048576):∃ r:Nat × List IN,Ev (fun k=>laws_markTrie.f k l 1) ((r.1:Int),r.2):=by
  obtain ⟨r,hr⟩:=markNodeS_l0 l.length l 1 0 (by omega) hl (by omega)
  exact ⟨r,by unfold laws_markTrie.f laws_markNodeS.f;exact Ev.bind hr (Ev.pure _)⟩
end Go.Proofs.Ytghkbgmbbcaecaa.Q
namespace Go.Proofs.Ytghkbgmbbcaecaa.Q
open Go.ChangeShapes Go.WideShapes Go.Deep Go.RowKit Go.Proofs.YtghkbgmbbcaecaaW.PrintWords Go.Proofs.YtghkbgmbbcaecaaW.PrintLast Go.Proofs.YtghkbgmbbcaecaaW.PrintMore
def I64 (n:Int):Prop:=-9223372036854775808≤n∧n≤9223372036854775807
theorem I64_of {n:Int} (h:(Lit.int .i64 n).wf=true):I64 n:=by
  have h1:IntKind.i64.min=-9223372036854775808:=by decide
  simp [Lit.wf,h1] at h
  exact h
set_option maxRecDepth 100000 in
theorem open_trie {H:Type} {enc:TypeId × Value→H} {w:World} {base b0:Nat} {spare:Nat→Bool} {held:Bool} {r:Reach} {v:Value} {d:DataW H} {p:List MemPlace} (hv:Value.okWide Try.prog w r b0 32 v) (h:DataW.Trod enc Try.prog w base spare held 32 v d p) :
    ∃ (A:Option Addr) (c:Nat) (l:List S72),v=.agg #[.slice A l.length c]∧Kd.C k72 w A l.length l∧l.length≤c∧l.length≤maxLen∧∀ x ∈ l,I64 x.f0∧I64 x.f1:=by
  obtain ⟨cs,rfl,hsz⟩:=okWide_struct Try.underlying32 hv
  have hct:Try.prog.cellsOf 32=1:=by kernel_rfl
  have hsz1:cs.size=1:=hsz.trans hct
  obtain ⟨c0,rfl⟩:∃ c0,cs=#[c0]:=⟨cs[0],by
    apply Array.ext
    · simp [hsz1]
    · intro i h1 h2
      have:i=0:=by omega
      subst this;rfl⟩
  obtain ⟨fuel,hf⟩:=h
  obtain ⟨xs,n,_,hx,_,hlen,hg⟩:=DataW.trod_struct Try.underlying32 hf
  have h0:=hg 0 _ rfl
  have hc1:Try.prog.cellsOf 30=1:=by kernel_rfl
  simp only [Value.cells,List.drop_zero,hc1] at h0
  have h0':DataW.trod enc Try.prog w base spare held n 30 [c0]=xs[0]?:=h0
  rw [List.getElem?_eq_getElem (show 0<xs.length by rw [hlen];decide)] at h0'
  have hC:Try.prog.cellsOf 72=3:=by kernel_rfl
  have i1:Try.prog.cellsOf 3=1:=by kernel_rfl
  have i2:Try.prog.cellsOf 4=1:=by kernel_rfl
  rcases open_slice Try.underlying30 h0' with ⟨e,_⟩|⟨a,len,cap,m,n',D,Pl,e,_,hl,hm,hmm,_,hi⟩
  · injection e with e
    subst e
    exact ⟨none,0,[],rfl,⟨rfl,by decide,fun h=>absurd h (by decide)⟩,Nat.le_refl _,Nat.zero_le _,fun x hx=>by cases hx⟩
  · injection e with e
    subst e
    have hlm:len≤m:=by rw [hmm];split <;> omega
    have hex:∀ i,i<len→∃ x:S72,I64 x.f0∧I64 x.f1∧∀ j u,[Value.int .i64 x.f0,.int .i64 x.f1,.bool x.f2][j]?=some u→w.cell? (a.add (i * 3+j))=some u:=by
      intro i hil
      obtain ⟨cs',hc,ht'⟩:=hi i (by omega)
      rw [hC] at hc
      obtain ⟨ys,n2,_,_,hcl,hyl,hfl⟩:=DataW.trod_struct Try.underlying72 ht'
      obtain ⟨_,hcl3,hat⟩:=World.cells?_some hc
      have f0:=hfl 0 _ rfl
      have f1:=hfl 1 _ rfl
      have f2:=hfl 2 _ rfl
      rw [hC] at hcl
      obtain ⟨u0,u1,u2,rfl⟩:∃ u0 u1 u2,cs'=[u0,u1,u2]:=by
        match cs',hcl with
        | [u0,u1,u2],_=>exact ⟨u0,u1,u2,rfl⟩
      replace f0:DataW.trod enc Try.prog w base spare held n2 3 ((List.drop 0 [u0,u1,u2]).take (Try.prog.cellsOf 3))=ys[0]?:=f0
      rw [i1] at f0
      replace f0:DataW.trod enc Try.prog w base spare held n2 3 [u0]=ys[0]?:=f0
      replace f1:DataW.trod enc Try.prog w base spare held n2 3 ((List.drop 1 [u0,u1,u2]).take (Try.prog.cellsOf 3))=ys[1]?:=f1
      rw [i1] at f1
      replace f1:DataW.trod enc Try.prog w base spare held n2 3 [u1]=ys[1]?:=f1
      replace f2:DataW.trod enc Try.prog w base spare held n2 4 ((List.drop 2 [u0,u1,u2]).take (Try.prog.cellsOf 4))=ys[2]?:=f2
      rw [i2] at f2
      replace f2:DataW.trod enc Try.prog w base spare held n2 4 [u2]=ys[2]?:=f2
      rw [List.getElem?_eq_getElem (show 0<ys.length by rw [hyl];decide)] at f0
      rw [List.getElem?_eq_getElem (show 1<ys.length by rw [hyl];decide)] at f1
      rw [List.getElem?_eq_getElem (show 2<ys.length by rw [hyl];decide)] at f2
      obtain ⟨x0,e0,_,w0⟩:=DataW.trod_int Try.underlying3 f0
      obtain ⟨x1,e1,_,w1⟩:=DataW.trod_int Try.underlying3 f1
      obtain ⟨x2,e2,_⟩:=DataW.trod_bool Try.underlying4 f2
      injection e0 with e0
      injection e1 with e1
      injection e2 with e2
      subst e0;subst e1;subst e2
      refine ⟨⟨x0,x1,x2⟩,I64_of w0,I64_of w1,fun j u hj=>?_⟩
      obtain ⟨hj3,hju⟩:=List.getElem?_eq_some_iff.1 hj
      rw [← Go.Deep.add_add,hat j (show j<3 from hj3)]
      exact hj
    obtain ⟨f,hf⟩:∃ f:Nat→S72,∀ i,i<len→I64 (f i).f0∧I64 (f i).f1∧∀ j u,[Value.int .i64 (f i).f0,.int .i64 (f i).f1,.bool (f i).f2][j]?=some u→w.cell? (a.add (i * 3+j))=some u :=
      ⟨fun i=>if h:i<len then Classical.choose (hex i h) else ⟨0,0,false⟩,fun i h=>by simp only [h,dite_true];exact Classical.choose_spec (hex i h)⟩
    have hfl:((List.range len).map f).length=len:=by simp
    refine ⟨some a,cap,(List.range len).map f,by rw [hfl],?_,by rw [hfl];exact hl,by rw [hfl];omega,?_⟩
    · rw [hfl]
      refine ⟨by simp,by unfold maxLen at hm;omega,fun _=>⟨a,rfl,fun j p hj=>?_⟩⟩
      obtain ⟨hjl,rfl⟩:=List.getElem?_eq_some_iff.1 hj
      rw [hfl] at hjl
      refine ⟨_,rfl,k72_mk w _,fun i u hu=>?_⟩
      simp only [List.getElem_map,List.getElem_range] at hu
      exact (hf j hjl).2.2 i u hu
    · intro x hx
      obtain ⟨i,hi,rfl⟩:=List.mem_map.1 hx
      exact ⟨(hf i (List.mem_range.1 hi)).1,(hf i (List.mem_range.1 hi)).2.1⟩
end Go.Proofs.Ytghkbgmbbcaecaa.Q
namespace Go.Proofs.Ytghkbgmbbcaecaa.Q
open Go.RowKit Go.Proofs.YtghkbgmbbcaecaaW.PrintWords Go.Proofs.YtghkbgmbbcaecaaW.PrintLast
def parN (l:List IN) (x:Nat):Nat:=((rT l (x:Int)).f1).toNat
def upA (l:List IN):Nat→Nat→Nat
  | 0,x=>x
  | f+1,x=>if stayB l (x:Int)=true then x else upA l f (parN l x)
theorem stayF_app (l:List IN):∀ (a b:List Nat),stayF l (a ++ b)=stayF l a ++ stayF l b
  | [],b=>rfl
  | i :: a,b=>by
    have:=stayF_app l a b
    simp only [List.cons_append,stayF,this]
    split <;> rfl
def stB (l:List IN) (i:Nat):List Int:=stayF l (List.range' 0 i)
theorem stB_succ (l:List IN) (i:Nat):stB l (i+1)=if stayB l (i:Int)=true then stB l i ++ [(i:Int)] else stB l i:=by
  unfold stB
  rw [List.range'_concat,stayF_app]
  simp only [stayF,Nat.zero_add,Nat.one_mul]
  split <;> simp
theorem stB_le (l:List IN) (i:Nat):(stB l i).length≤i:=by
  have:=stayF_len l (List.range' 0 i)
  simpa [stB] using this
theorem stB_mono (l:List IN) {a i:Nat} (h:a≤i):∃ t,stB l i=stB l a ++ t:=by
  induction h with
  | refl=>exact ⟨[],by simp⟩
  | step h ih =>
    obtain ⟨t,e⟩:=ih
    rw [stB_succ]
    split
    · exact ⟨t ++ [_],by rw [e,List.append_assoc]⟩
    · exact ⟨t,e⟩
theorem stB_at (l:List IN) {a n:Nat} (h:a<n) (hs:stayB l (a:Int)=true):(stB l a).length<(stB l n).length∧rd (stB l n) ((stB l a).length:Int)=(a:Int):=by
  obtain ⟨t,e⟩:=stB_mono l (show a+1≤n from h)
  rw [stB_succ,if_pos hs] at e
  rw [e]
  refine ⟨by simp,?_⟩
  simp [rd]
theorem stB_mem (l:List IN):∀ (n:Nat),∀ x ∈ stB l n,∃ a:Nat,a<n∧x=(a:Int)
  | 0,x,h=>by simp [stB,stayF] at h
  | n+1,x,h=>by
    rw [stB_succ] at h
    have ih:=stB_mem l n
    split at h
    · rcases List.mem_append.1 h with h|h
      · obtain ⟨a,h1,h2⟩:=ih x h;exact ⟨a,by omega,h2⟩
      · exact ⟨n,by omega,List.mem_singleton.1 h⟩
    · obtain ⟨a,h1,h2⟩:=ih x h;exact ⟨a,by omega,h2⟩
theorem stB_lt (l:List IN):∀ (n:Nat),(stB l n).Pairwise (·<·)
  | 0=>by simp [stB,stayF]
  | n+1=>by
    rw [stB_succ]
    have ih:=stB_lt l n
    split
    · refine List.pairwise_append.2 ⟨ih,List.pairwise_singleton _ _,fun x hx y hy=>?_⟩
      obtain ⟨a,h1,rfl⟩:=stB_mem l n x hx
      rw [List.mem_singleton.1 hy]
      omega
    · exact ih
theorem stB_inj (l:List IN) {n x y:Nat} (hx:x<(stB l n).length) (hy:y<(stB l n).length) (h:rd (stB l n) (x:Int)=rd (stB l n) (y:Int)):x=y:=by
  have e:∀ z (hz:z<(stB l n).length),rd (stB l n) (z:Int)=(stB l n)[z]:=fun z hz=>by simp [rd,hz]
  rw [e x hx,e y hy] at h
  have hp:=List.pairwise_iff_getElem.1 (stB_lt l n)
  rcases Nat.lt_trichotomy x y with hc|hc|hc
  · have:=hp x y hx hy hc;omega
  · exact hc
  · have:=hp y x hy hx hc;omega
def preS (ws:List ByteArray) (i:Nat):ByteArray:=rdOf ByteArray.empty (prefW ws) (i:Int)
def aboveN (ws:List ByteArray) (i:Nat):Nat:=upA (trieW ws) (trieW ws).length (parN (trieW ws) i)
def brN (ws:List ByteArray) (i:Nat):BN :=
  if i=0 then ⟨⟨#[]⟩,-1,(rT (trieW ws) (i:Int)).f2⟩
  else ⟨(preS ws i).extract (preS ws (aboveN ws i)).size (preS ws i).size,((stB (trieW ws) (aboveN ws i)).length:Int),(rT (trieW ws) (i:Int)).f2⟩
def brB (ws:List ByteArray):Nat→List BN
  | 0=>[]
  | i+1=>if stayB (trieW ws) (i:Int)=true then brB ws i ++ [brN ws i] else brB ws i
theorem brB_len (ws:List ByteArray):∀ i,(brB ws i).length=(stB (trieW ws) i).length
  | 0=>by simp [brB,stB,stayF]
  | i+1=>by
    rw [brB,stB_succ]
    have:=brB_len ws i
    split <;> simp [this]
theorem stay0 (l:List IN):stayB l ((0:Nat):Int)=true:=by simp [stayB]
theorem par_ok {ws:List ByteArray} (hv:VW ws) {i:Nat} (h0:0<i) (hi:i<(prefW ws).length):parN (trieW ws) i<i∧(rT (trieW ws) (i:Int)).f1=(parN (trieW ws) i:Int)∧(preS ws (parN (trieW ws) i)).size≤(preS ws i).size:=by
  obtain ⟨j,c,h1,h2,h3,h4,h5,h6⟩:=par_at hv.ok h0 hi
  have e:parN (trieW ws) i=j:=by unfold parN;rw [h2];exact Int.toNat_natCast j
  rw [e]
  refine ⟨h1,h2,?_⟩
  unfold preS
  rw [h6,ByteArray.size_append]
  omega
theorem up_ok {ws:List ByteArray} (hv:VW ws):∀ (f x:Nat),x<f→x<(prefW ws).length→upA (trieW ws) f x≤x∧stayB (trieW ws) (upA (trieW ws) f x:Int)=true∧(preS ws (upA (trieW ws) f x)).size≤(preS ws x).size ∧
    (∀ (x4:List Int) (x5:Int) (b:List BN) (e0:ByteArray) (e1:Int) (e2:Bool) (r:List BN),Ev (fun k=>spec_l4Press.l1 k x4 x5 (upA (trieW ws) f x:Int) (trieW ws) b e0 e1 e2) r→Ev (fun k=>spec_l4Press.l1 k x4 x5 (x:Int) (trieW ws) b e0 e1 e2) r) ∧
    (∀ (x3:List ByteArray) (x6:List Int) (x7:Int) (x23 x24:Int) (b:List BN) (e0:ByteArray) (e1:Int) (e2:Bool) (r:List BN),Ev (fun k=>impl_Trie_press.l1 k x3 x6 x7 (upA (trieW ws) f x:Int) (trieW ws) x23 x24 (trieW ws) b e0 e1 e2) r→Ev (fun k=>impl_Trie_press.l1 k x3 x6 x7 (x:Int) (trieW ws) x23 x24 (trieW ws) b e0 e1 e2) r)
  | 0,x,h,_=>absurd h (Nat.not_lt_zero _)
  | f+1,x,h,hx=>by
    have hn2:=trieW_length ws
    rw [upA]
    by_cases hs:stayB (trieW ws) (x:Int)=true
    · rw [if_pos hs]
      exact ⟨Nat.le_refl _,hs,Nat.le_refl _,fun _ _ _ _ _ _ _ h=>h,fun _ _ _ _ _ _ _ _ _ _ h=>h⟩
    · rw [if_neg hs]
      have h0:0<x:=by
        rcases Nat.eq_zero_or_pos x with rfl|h0
        · exact absurd (stay0 _) hs
        · exact h0
      obtain ⟨p1,p2,p3⟩:=par_ok hv h0 hx
      obtain ⟨u1,u2,u3,u4,u5⟩:=up_ok hv f (parN (trieW ws) x) (by omega) (by omega)
      have hs1:=specStays hv x hx
      have hs2:=implStays hv x hx
      rw [Bool.eq_false_iff.2 hs] at hs1 hs2
      refine ⟨by omega,u2,by omega,fun x4 x5 b e0 e1 e2 r hr=>Ev.succ ?_,fun x3 x6 x7 x23 x24 b e0 e1 e2 r hr=>Ev.succ ?_⟩
      · simp only [spec_l4Press.l1]
        rw [p2]
        exact Ev.bind hs1 (Ev.neg (by decide) (Ev.pos (by omega) (Ev.pos (by omega) (u4 _ _ _ _ _ _ _ hr))))
      · simp only [impl_Trie_press.l1]
        rw [p2]
        exact Ev.bind hs2 (Ev.neg (by decide) (Ev.pos (by omega) (Ev.pos (by omega) (u5 _ _ _ _ _ _ _ _ _ _ hr))))
theorem press_l2 {ws:List ByteArray} (hn:(trieW ws).length≤1000) (i A:Nat) (hi:i<(trieW ws).length) (hA:A<i) (hsA:stayB (trieW ws) (A:Int)=true) (hsi:stayB (trieW ws) (i:Int)=true) (b:List BN) (hb:b.length≤1000) (e0:ByteArray) (e2:Bool) (r:List BN)
    (next:Ev (fun k=>spec_l4Press.l0 k (stB (trieW ws) (trieW ws).length) ((stB (trieW ws) i).length+1:Nat) (trieW ws) (b ++ [⟨e0,((stB (trieW ws) A).length:Int),e2⟩])) r):∀ (m x8:Nat) (e1:Int),x8+m=(stB (trieW ws) i).length→(x8≤(stB (trieW ws) A).length∨e1=((stB (trieW ws) A).length:Int)) →
    Ev (fun k=>spec_l4Press.l2 k (stB (trieW ws) (trieW ws).length) ((stB (trieW ws) i).length:Int) (A:Int) (x8:Int) (trieW ws) b e0 e1 e2) r:=by
  obtain ⟨a1,a2⟩:=stB_at (trieW ws) (show A<(trieW ws).length by omega) hsA
  obtain ⟨a3,_⟩:=stB_at (trieW ws) hA hsA
  obtain ⟨i1,i2⟩:=stB_at (trieW ws) hi hsi
  have hle:=stB_le (trieW ws) i
  intro m
  induction m with
  | zero =>
    intro x8 e1 h h1
    refine Ev.succ ?_
    simp only [spec_l4Press.l2]
    have e:e1=((stB (trieW ws) A).length:Int):=h1.resolve_left (by omega)
    rw [e,wnext (stB (trieW ws) i).length (by omega)]
    exact Ev.neg (by omega) (Ev.pos (by omega) next)
  | succ m ih =>
    intro x8 e1 h h1
    refine Ev.succ ?_
    simp only [spec_l4Press.l2]
    rw [wnext x8 (by omega)]
    refine Ev.pos (by omega) (Ev.pos (by omega) (Ev.pos (by omega) ?_))
    by_cases e:rd (stB (trieW ws) (trieW ws).length) (x8:Int)=(A:Int)
    · have ex:x8=(stB (trieW ws) A).length:=stB_inj (trieW ws) (by omega) a1 (e.trans a2.symm)
      exact Ev.pos e (ih (x8+1) (x8:Int) (by omega) (.inr (by rw [ex])))
    · refine Ev.neg e (ih (x8+1) e1 (by omega) ?_)
      rcases h1 with h1|h1
      · by_cases e':x8=(stB (trieW ws) A).length
        · exact absurd (by rw [e'];exact a2) e
        · exact .inl (by omega)
      · exact .inr h1
theorem specPress {ws:List ByteArray} (hv:VW ws) (hn:(trieW ws).length≤1000):∀ (d i:Nat),i+d=(trieW ws).length→Ev (fun k=>spec_l4Press.l0 k (stB (trieW ws) (trieW ws).length) ((stB (trieW ws) i).length:Int) (trieW ws) (brB ws i)) (brB ws (trieW ws).length):=by
  have hn2:=trieW_length ws
  intro d
  induction d with
  | zero =>
    intro i h
    obtain rfl:i=(trieW ws).length:=by omega
    refine Ev.succ ?_
    simp only [spec_l4Press.l0]
    exact Ev.neg (by omega) (Ev.pure _)
  | succ d ih =>
    intro i h
    have hi:i<(trieW ws).length:=by omega
    have ihi:=ih (i+1) (by omega)
    have hle:=stB_le (trieW ws) i
    have hbl:=brB_len ws i
    by_cases hs:stayB (trieW ws) (i:Int)=true
    · obtain ⟨i1,i2⟩:=stB_at (trieW ws) hi hs
      rw [stB_succ,brB,if_pos hs,if_pos hs,List.length_append,List.length_singleton] at ihi
      refine Ev.succ ?_
      simp only [spec_l4Press.l0,i2]
      refine Ev.pos (by omega) (Ev.pos (by omega) (Ev.pos (by omega) (Ev.pos (by omega) ?_)))
      by_cases h0:i=0
      · subst h0
        have e0:(stB (trieW ws) 0).length=0:=by simp [stB,stayF]
        rw [e0] at ihi ⊢
        have eb:brN ws 0=⟨⟨#[]⟩,-1,(rT (trieW ws) ((0:Nat):Int)).f2⟩:=by unfold brN;rw [if_pos rfl]
        rw [eb] at ihi
        rw [wnext 0 (by omega)]
        exact Ev.neg (by omega) (Ev.pos (by omega) ihi)
      · have hpos:0<(stB (trieW ws) i).length:=by
          obtain ⟨z,_⟩:=stB_at (trieW ws) (show 0<i by omega) (stay0 _)
          omega
        obtain ⟨p1,p2,p3⟩:=par_ok hv (show 0<i by omega) (by omega)
        obtain ⟨u1,u2,u3,u4,_⟩:=up_ok hv (trieW ws).length (parN (trieW ws) i) (by omega) (by omega)
        have hA:aboveN ws i=upA (trieW ws) (trieW ws).length (parN (trieW ws) i):=rfl
        rw [← hA] at u1 u2 u3 u4
        have eb:brN ws i=⟨(preS ws i).extract (preS ws (aboveN ws i)).size (preS ws i).size,((stB (trieW ws) (aboveN ws i)).length:Int),(rT (trieW ws) (i:Int)).f2⟩:=by unfold brN;rw [if_neg h0]
        rw [eb] at ihi
        rw [p2]
        refine Ev.pos (by omega) (u4 _ _ _ _ _ _ _ (Ev.succ ?_))
        simp only [spec_l4Press.l1,i2]
        refine Ev.bind (specStays hv (aboveN ws i) (by omega)) ?_
        rw [u2]
        refine Ev.pos rfl (Ev.pos (by omega) (Ev.pos (by omega) (Ev.bind (specPrefix hv (i:=(i:Int)) (by omega) (by omega)) (Ev.bind (specPrefix hv (i:=(aboveN ws i:Int)) (by omega) (by omega)) ?_))))
        have u3':(preS ws (aboveN ws i)).size≤(preS ws i).size:=by omega
        show Ev (fun k=>if 0≤((preS ws (aboveN ws i)).size:Int) then _ else _) _
        refine Ev.pos (by omega) (Ev.pos (show ((preS ws (aboveN ws i)).size:Int)≤((preS ws i).size:Int) by omega) ?_)
        simp only [Int.toNat_natCast]
        exact press_l2 hn i (aboveN ws i) hi (by omega) u2 hs (brB ws i) (by omega) _ _ _ ihi (stB (trieW ws) i).length 0 (-1) (by omega) (.inl (Nat.zero_le _))
    · rw [stB_succ,brB,if_neg hs,if_neg hs] at ihi
      exact ihi
theorem implPress {ws:List ByteArray} (hv:VW ws) (hn:(trieW ws).length≤1000):∀ (d i:Nat) (x6:List Int),i+d=(trieW ws).length→x6.length=(trieW ws).length→(∀ a,a<i→stayB (trieW ws) (a:Int)=true→rd x6 (a:Int)=((stB (trieW ws) a).length:Int))→Ev (fun k=>impl_Trie_press.l0 k (prefW ws) x6 (trieW ws) ((trieW ws).length:Int) (i:Int) (trieW ws) (brB ws i)) (brB ws (trieW ws).length):=by
  have hn2:=trieW_length ws
  intro d
  induction d with
  | zero =>
    intro i x6 h hl hp
    obtain rfl:i=(trieW ws).length:=by omega
    refine Ev.succ ?_
    simp only [impl_Trie_press.l0]
    exact Ev.neg (by omega) (Ev.pure _)
  | succ d ih =>
    intro i x6 h hl hp
    have hi:i<(trieW ws).length:=by omega
    have hle:=stB_le (trieW ws) i
    have hbl:=brB_len ws i
    have hst:=implStays hv i (by omega)
    refine Ev.succ ?_
    simp only [impl_Trie_press.l0]
    rw [wnext i (by omega)]
    refine Ev.pos (by omega) (Ev.pos (by omega) (Ev.pos (by omega) (Ev.bind hst ?_)))
    by_cases hs:stayB (trieW ws) (i:Int)=true
    · rw [hs]
      have ihi:=ih (i+1) (x6.set i ((brB ws i).length:Int)) (by omega) (by rw [List.length_set];exact hl) (fun a ha hsa=>by
        have er:rd (x6.set i ((brB ws i).length:Int)) (a:Int)=if a=i then ((brB ws i).length:Int) else rd x6 (a:Int):=by
          simp only [rd,Int.toNat_natCast,List.getD_eq_getElem?_getD,List.getElem?_set]
          by_cases hh:a=i
          · subst hh;simp [hl,hi]
          · rw [if_neg (fun e=>hh e.symm),if_neg hh]
        rw [er]
        by_cases hh:a=i
        · rw [if_pos hh,hbl,hh]
        · rw [if_neg hh];exact hp a (by omega) hsa)
      rw [brB,if_pos hs] at ihi
      refine Ev.pos rfl ?_
      by_cases h0:i=0
      · subst h0
        have eb:brN ws 0=⟨⟨#[]⟩,-1,(rT (trieW ws) ((0:Nat):Int)).f2⟩:=by unfold brN;rw [if_pos rfl]
        rw [eb] at ihi
        simp only [Int.toNat_natCast]
        exact Ev.neg (by omega) (Ev.pos (by omega) (Ev.pos (by omega) ihi))
      · obtain ⟨p1,p2,p3⟩:=par_ok hv (show 0<i by omega) (by omega)
        obtain ⟨u1,u2,u3,_,u5⟩:=up_ok hv (trieW ws).length (parN (trieW ws) i) (by omega) (by omega)
        have hA:aboveN ws i=upA (trieW ws) (trieW ws).length (parN (trieW ws) i):=rfl
        rw [← hA] at u1 u2 u3 u5
        have eb:brN ws i=⟨(preS ws i).extract (preS ws (aboveN ws i)).size (preS ws i).size,((stB (trieW ws) (aboveN ws i)).length:Int),(rT (trieW ws) (i:Int)).f2⟩:=by unfold brN;rw [if_neg h0]
        rw [eb,← hp (aboveN ws i) (by omega) u2] at ihi
        rw [p2]
        refine Ev.pos (by omega) (u5 _ _ _ _ _ _ _ _ _ _ (Ev.succ ?_))
        simp only [impl_Trie_press.l1]
        refine Ev.bind (implStays hv (aboveN ws i) (by omega)) ?_
        rw [u2,wnext i (by omega)]
        simp only [Int.toNat_natCast]
        have u3':(preS ws (aboveN ws i)).size≤(preS ws i).size:=by omega
        exact Ev.pos trivial (Ev.pos (by omega) (Ev.pos (by omega) (Ev.pos (by omega) (Ev.pos (by omega) (Ev.pos (by omega) (Ev.pos (show ((preS ws (aboveN ws i)).size:Int)≤((preS ws i).size:Int) by omega) (Ev.pos (by omega) (Ev.pos (by omega) (Ev.pos (by omega) ihi)))))))))
    · rw [Bool.eq_false_iff.2 hs]
      have ihi:=ih (i+1) x6 (by omega) hl (fun a ha hsa=>by
        by_cases hh:a=i
        · subst hh;exact absurd hsa hs
        · exact hp a (by omega) hsa)
      rw [brB,if_neg hs] at ihi
      exact Ev.neg (by decide) ihi
theorem both_PressTrie (l0:List IN):∃ r,Ev (fun k=>spec_PressTrie.f k l0) r∧Ev (fun k=>impl_PressTrie.f k l0) r∧r.1.length≤1048576:=by
  unfold spec_PressTrie.f impl_PressTrie.f
  rcases trie_cases l0 with hf|⟨ws,hv,rfl,ht⟩
  · have h1:=specT l0 rfl
    have h2:=implT l0 rfl
    rw [hf] at h1 h2
    exact ⟨([],false),Ev.bind h1 (Ev.neg (by decide) (Ev.pure _)),Ev.bind h2 (Ev.neg (by decide) (Ev.pure _)),by simp⟩
  · have h1:=specT (trieW ws) rfl
    have h2:=implT (trieW ws) rfl
    rw [ht] at h1 h2
    have hn:=trie_le hv
    have hn2:=trieW_length ws
    have hb:=brB_len ws (trieW ws).length
    have hle:=stB_le (trieW ws) (trieW ws).length
    refine ⟨(brB ws (trieW ws).length,true),Ev.bind h1 (Ev.pos rfl (Ev.bind (t:=brB ws (trieW ws).length) ?_ (Ev.pure _))),Ev.bind h2 (Ev.pos rfl (Ev.bind (t:=brB ws (trieW ws).length) ?_ (Ev.pure _))),by simp only;omega⟩
    · unfold spec_l4Press.f
      refine Ev.bind (specStaying hv) ?_
      have h:=specPress hv (by omega) (trieW ws).length 0 (by omega)
      have e0:(stB (trieW ws) 0).length=0:=by simp [stB,stayF]
      rw [e0] at h
      exact h
    · unfold impl_Trie_press.f
      refine Ev.bind (implPrefixes hv) ?_
      simp only [Int.toNat_natCast]
      exact Ev.pos (by omega) (Ev.pos (by omega) (implPress hv (by omega) (trieW ws).length 0 _ (by omega) (by simp) (fun a ha=>absurd ha (Nat.not_lt_zero _))))
theorem pure_FnExactPressTrie (l0:List LN) (hl_l0:l0.length≤maxLen) (hI_l0:∀ x ∈ l0,I64 x.f0∧I64 x.f1):∃ k,laws_FnExactPressTrie.f k l0=some true:=by
  refine Ev.ex ?_
  unfold laws_FnExactPressTrie.f
  by_cases h_l0:l0.length≤1048576
  case neg=>exact Ev.bindc (szTrie_eq l0 (by unfold maxLen at hl_l0;omega)) (by rw [if_neg h_l0];exact Ev.pos (by decide) (Ev.pure _))
  refine Ev.bindc (szTrie_eq l0 (by unfold maxLen at hl_l0;omega)) ?_
  rw [if_pos h_l0]
  refine Ev.neg (by omega) ?_
  have ht_l0:=toTrie_ev l0 (by omega)
  have hc_l0:(cv l0).length≤1048576:=by rw [cv_length];omega
  obtain ⟨r,e1,e2,hr⟩:=both_PressTrie (cv l0)
  have hq:=eqPressed_ev r.1 r.1 hr
  refine (Ev.bind ht_l0 (Ev.bind e1 (Ev.bind ht_l0 (Ev.bind e2 (Ev.bind hq (Ev.pos (by simp) (Ev.succ ?_)))))))
  simp only [laws_FnExactPressTrie.j0]
  obtain ⟨m,hm⟩:=markTrie_ev (cv l0) hc_l0
  refine Ev.neg (by simp) (Ev.bind ht_l0 (Ev.bind (eqTrie_ev _ _ hc_l0) (Ev.pos (by simp) (Ev.bind hm (Ev.neg (by simp only;omega) (Ev.bind hq (Ev.pos (by simp) (Ev.succ ?_))))))))
  simp only [laws_FnExactPressTrie.j1]
  obtain ⟨ms,hs1,hs2⟩:=markP_ev r.1 hr
  refine Ev.neg (by simp) (Ev.bind hs1 (Ev.bind hs2 (Ev.neg (by omega) (Ev.pos rfl (Ev.bind ht_l0 (Ev.bind e2 (Ev.bind hq (Ev.pos (by simp) (Ev.succ ?_)))))))))
  simp only [laws_FnExactPressTrie.j2]
  exact Ev.neg (by simp) (Ev.bind hs2 (Ev.neg (by omega) (Ev.pos rfl (Ev.pure _))))
end Go.Proofs.Ytghkbgmbbcaecaa.Q
namespace Go.Proofs.Ytghkbgmbbcaecaa.Pure
theorem FnExactPressTrie (l0:List Q.LN) (hl_l0:l0.length≤maxLen) (hI_l0:∀ x ∈ l0,Q.I64 x.f0∧Q.I64 x.f1):∃ k,Q.laws_FnExactPressTrie.f k l0=some true:=Q.pure_FnExactPressTrie l0 hl_l0 hI_l0
end Go.Proofs.Ytghkbgmbbcaecaa.Pure
namespace Go.Proofs.Ytghkbgmbbcaecaa.fnExactPressTrie
open Go.ChangeShapes Go.WideShapes Go.ChangeAt Go.RowKit
open Go.ChangeMaps (open_string shut_string)
set_option linter.unusedVariables false
theorem own:ownKnob Try.prog.godebug=none:=by kernel_rfl
theorem laidOut:laidOutB Try.prog=true:=by kernel_rfl
set_option maxRecDepth 100000 in
theorem lifted (os:Os) (started:os.Started) (H:Type) (enc:TypeId × Value→H) :
    ReturnsInHanded {} Try.checked os 4 .any (Rows.fnExactPressTrieSpec.pre6 enc Try.prog Try.f4 Rows.fnExactPressTrieRow.domain false) (Rows.fnExactPressTrieSpec.post enc Try.prog Try.f4 false true false false):=by
  refine returnsInHanded_of_change_sized (C:=Try.checked) own started (by kernel_rfl) Try.func4
    (ChangeSpec.witness6 (enc:=enc) (C:=Try.checked) false ⟨#[],#[.agg #[.slice none 0 0]],[]⟩ 8 (by kernel_rfl) (by kernel_rfl) (by kernel_rfl) (by kernel_rfl)) ?_
  intro W base args ds gs before hval0 hW hcnd hsz0 _
  have hsz:(DataW.weightsEach Try.prog (Try.f4.params.toList ++ Rows.fnExactPressTrieSpec.plain.varTypes Try.prog) (ds ++ gs)).all (·≤reachBytes)=true:=hsz0
  have hval:∀ (j:Nat) t v,Try.f4.params[j]?=some t→args[j]?=some v→Value.okWide Try.prog W .any base t v:=hval0
  have hW':=hW
  obtain ⟨p,q,hA0,hV,rfl,hfz,hnd⟩:=hW
  have hA:DataW.TrodAll enc Try.prog W 0 (fun _=>true) true Try.f4.params.toList args.toList ds p:=hA0
  rw [Try.params4] at hA hval hsz
  obtain ⟨v0,vs0,d0,ds0,p0,q0,hargs,rfl,rfl,h0,r0⟩:=trodAll_cons hA
  obtain ⟨rfl,rfl,rfl⟩:=trodAll_nil r0
  obtain rfl:args=#[v0]:=by cases args;simp_all
  obtain ⟨rfl,rfl⟩:=trodVars_none hV
  have k0:=h0
  have lt0:∀ x ∈ p0,x.block<W.heap.size:=by obtain ⟨m,hm⟩:=k0;exact DataW.trod_lt m _ _ _ hm
  obtain ⟨A0,c0,l0,rfl,hC0,hc0,hl0,hI0⟩:=Q.open_trie (hval 0 32 v0 rfl rfl) h0
  clear hA0 hval0 hsz0 hsz
  obtain ⟨k,hk⟩:=Pure.FnExactPressTrie l0 hl0 hI0
  refine (Q.laws_FnExactPressTrie.calls k A0 c0 l0 true W hC0 hc0 hk).mono fun e W' ⟨he,bel0⟩=>?_
  have bel:Below W.heap.size W W':=bel0
  subst he
  exact ⟨_,rfl,_,_,_,[],_,[],hW',trodAll_mk1 (shut_bool Try.underlying4 _),(trodAll_cons_mk (Below.trod laidOut (by kernel_rfl) (of_decide_eq_true (by kernel_rfl)) k0 bel lt0) trodAll_mk0),rfl,bel.frame _,fun h=>by cases h⟩
theorem over:Rows.fnExactPressTrieRow.holds Try.pinned (OpenSpec.ofChange Rows.fnExactPressTrieSpec) :=
  OpenClaim.holds_of_wide 4 Try.f4 rfl rfl rfl rfl rfl rfl rfl ⟨rfl,rfl,rfl,rfl,rfl⟩ rfl rfl rfl rfl rfl (by kernel_rfl) Try.func4 (by kernel_rfl)
    (of_decide_eq_true (by kernel_rfl)) (by unfold Func.isWrapper;first|(rw [if_pos (by decide +kernel)];kernel_rfl)|(rw [if_neg (by decide +kernel)];exact ⟨rfl,rfl⟩))
    (fun os started H enc _=>lifted os started H enc)
theorem proved:Rows.FnExactPressTrieSaid:=over
end Go.Proofs.Ytghkbgmbbcaecaa.fnExactPressTrie
namespace Go.Proofs.Ytghkbgmbbcaecaa
theorem fnExactPressTrie_holds:Rows.FnExactPressTrieSaid:=fnExactPressTrie.proved
end Go.Proofs.Ytghkbgmbbcaecaa
