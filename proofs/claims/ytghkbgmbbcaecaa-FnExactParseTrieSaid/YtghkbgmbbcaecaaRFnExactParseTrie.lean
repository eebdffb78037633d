import Derived.Test.YtghkbgmbbcaecaaD0
import Derived.Test.YtghkbgmbbcaecaaD1
import Derived.Test.YtghkbgmbbcaecaaD2
import Derived.Test.YtghkbgmbbcaecaaDwWords
import Derived.Test.YtghkbgmbbcaecaaDwLast
import Derived.Test.YtghkbgmbbcaecaaDwTab
import Derived.Test.YtghkbgmbbcaecaaDwApart
import Derived.Test.YtghkbgmbbcaecaaDwFoot
import Derived.Test.YtghkbgmbbcaecaaDwKept
import Derived.Test.YtghkbgmbbcaecaaDwShare
import Derived.Test.YtghkbgmbbcaecaaDwN
import Derived.Test.YtghkbgmbbcaecaaDwRepsOne
import Derived.Test.YtghkbgmbbcaecaaDwGuard
import Derived.Test.YtghkbgmbbcaecaaDwMore
import Derived.Test.YtghkbgmbbcaecaaProg
import Derived.Below
import Derived.Deep.Draws
import Derived.Deep.AppendLies
import Derived.Maps.AppendAt
import Derived.OwnWalk
import Derived.Laws.BytesArg
import Derived.Laws.MakeOwn
import Derived.Laws.OwnMore
import Derived.Deep.OwnRows
import Derived.Tactics
import Derived.Lib.ConvBytes
import Derived.Laws.Slices
import Derived.WalkKit
import Derived.KernelRfl
import Derived.RowKit3
import Derived.Deep.LoopGhost
import Derived.Deep.QuietTactic
import Derived.BigQuiet
import Derived.WideLaws
import Derived.Deep.DeepCutAuto
import Derived.Deep.CutBlock
import Derived.Deep.RegionHeld3
import Derived.Laws.Rows
import Derived.Lib.AppendStr
import Derived.ArgAppend
import Derived.Laws.IdiomCopy
import Derived.OrdersHeld
import Derived.Laws.BitsLemmas
import Derived.RowKit
import Derived.Lib.SlicesCompact
import Derived.Maps.Own
import Derived.StringKeys
import Derived.Maps.OwnOps
import Derived.Maps.OwnSet
import Derived.Maps.Views
import Derived.Laws.AppendOwn
import Derived.Deep.DrawnRows
import Derived.Shelf.Sort.Plain
import Derived.Shelf.Slices.CompactS
import Derived.Shelf.Slices.In.SortNone
import Derived.RangeFuncBox
import Derived.RangeFuncLeaves
import Derived.Shelf.Abstract
import Derived.OwnWalkIn
import Derived.TacticsInMore
import Derived.LoopNIn
import Derived.LoopIn
import Derived.Lib.OwnBridge
import Derived.Sort.OwnSorted
import Derived.Sort.Grow
import Derived.Shelf.Strings.OnBuilder
import Derived.Ground.NamesProg
import Derived.Ground.SlgfProg
import Derived.Sort.Walk0
import Derived.Lib.Strings
import Derived.Deep.Slices
import Derived.Deep.Fields
import Derived.ChangeSame
import Derived.ChangeArms
import Derived.WideShapes
import Derived.Test.YtghkbgmbbcaecaaRows
import Derived.ProofKit
import Derived.OpenShut
import Derived.ShutString
import Derived.ChangeOld
import Derived.SizedLaws
import Derived.Carry
set_option linter.unusedVariables false
set_option linter.unusedSimpArgs false
namespace Go.Proofs.Ytghkbgmbbcaecaa.Q
open Go.RowKit Go.Proofs.YtghkbgmbbcaecaaW.PrintWords Go.Proofs.YtghkbgmbbcaecaaW.PrintLast
def letters (w:ByteArray):Prop:=∀ x ∈ lw w,97≤x.toNat∧x.toNat≤122
def okWord (w:ByteArray):Prop:=w.size≤12∧letters w
structure VW (ws:List ByteArray):Prop where
  ss:SS ws
  ok:∀ w ∈ ws,okWord w
  len:ws.length≤40
theorem letters_empty:letters ByteArray.empty:=fun x hx=>by cases hx
theorem letters_cut {w:ByteArray} (h:letters w) (n:Nat):letters (w.extract 0 n):=fun x hx=>by
  rw [lw_extract] at hx
  exact h x (List.mem_of_mem_take hx)
theorem prefW_ok {ws:List ByteArray} (h:∀ w ∈ ws,okWord w) {p:ByteArray} (hp:p ∈ prefW ws):okWord p:=by
  rcases mem_prefW.1 hp with rfl|⟨w,hw,j,hj,rfl⟩
  · exact ⟨Nat.zero_le _,letters_empty⟩
  · have:=(h w hw).1
    exact ⟨by rw [ext_size _ _ (by omega)];omega,letters_cut (h w hw).2 _⟩
theorem prefW_pos (ws:List ByteArray):0<(prefW ws).length:=List.length_pos_of_mem (mem_prefW.2 (.inl rfl))
theorem prefW_zero (ws:List ByteArray):rdOf ByteArray.empty (prefW ws) 0=ByteArray.empty:=by
  obtain ⟨k,hk,e⟩:=List.getElem_of_mem (mem_prefW.2 (.inl rfl):ByteArray.empty ∈ prefW ws)
  by_cases h0:k=0
  · subst h0
    have:=rd_nat (prefW ws) hk
    exact this.trans e
  · have h1:=ss_at (prefW_ss ws) (show 0<k by omega) hk
    rw [rd_nat _ hk,e] at h1
    exact absurd h1 (List.not_lt_nil _)
theorem prefW_nonzero (ws:List ByteArray) {k:Nat} (h0:0<k) (hk:k<(prefW ws).length):(rdOf ByteArray.empty (prefW ws) (k:Int)).size ≠ 0:=fun e=>by
  have h1:=ss_at (prefW_ss ws) h0 hk
  have h2:lw (rdOf ByteArray.empty (prefW ws) (k:Int))=[]:=List.eq_nil_of_length_eq_zero (by rw [lw_length];exact e)
  rw [h2] at h1
  exact absurd h1 (List.not_lt_nil _)
theorem lw_app (a b:ByteArray):lw (a ++ b)=lw a ++ lw b:=by simp [lw]
theorem lw_letterW (n:Int) (h0:0≤n) (h1:n≤25):lw (letterW n)=[UInt8.ofNat (97+n.toNat)]:=by
  have e:(wrap64 (97+n)) % 256=((97+n.toNat:Nat):Int):=by unfold wrap64;omega
  unfold letterW
  rw [e]
  rfl
theorem cut_last {p:ByteArray} (h:letters p) (h0:p.size ≠ 0):0≤(bt p ((p.size:Int) - 1)+159) % 256∧(bt p ((p.size:Int) - 1)+159) % 256≤25∧p.extract 0 (p.size - 1) ++ letterW ((bt p ((p.size:Int) - 1)+159) % 256)=p:=by
  have e:((p.size:Int) - 1).toNat=p.size - 1:=by omega
  have hlt:p.size - 1<p.size:=by omega
  have hl:p.size - 1<(lw p).length:=by rw [lw_length];omega
  have hb:bt p ((p.size:Int) - 1)=((p[p.size - 1]'hlt).toNat:Int):=by simp [bt,e,hlt]
  have hx:(lw p)[p.size - 1]'hl=p[p.size - 1]'hlt:=rfl
  have hr:=h _ (List.getElem_mem hl)
  rw [hx] at hr
  rw [hb]
  have h1:(((p[p.size - 1]'hlt).toNat:Int)+159) % 256=((p[p.size - 1]'hlt).toNat:Int) - 97:=by omega
  rw [h1]
  refine ⟨by omega,by omega,lw_inj ?_⟩
  rw [lw_app,lw_extract,lw_letterW _ (by omega) (by omega)]
  have h2:(97+(((p[p.size - 1]'hlt).toNat:Int) - 97).toNat)=(p[p.size - 1]'hlt).toNat:=by omega
  rw [h2,UInt8.ofNat_toNat,← hx]
  have h3:=List.take_append_getElem hl
  rw [h3]
  exact List.take_of_length_le (by rw [lw_length];omega)
theorem trieW_at (ws:List ByteArray) {i:Nat} (hi:i<(prefW ws).length):(trieW ws)[i]'(by rw [trieW_length];exact hi)=nodeW (prefW ws) ws (rdOf ByteArray.empty (prefW ws) (i:Int)):=by
  rw [rd_nat _ hi]
  simp [trieW]
theorem node_at (ws:List ByteArray) (ho:∀ w ∈ ws,okWord w) {i:Nat} (h0:0<i) (hi:i<(prefW ws).length):∃ j,j<i∧rdOf ByteArray.empty (prefW ws) (j:Int)=(rdOf ByteArray.empty (prefW ws) (i:Int)).extract 0 ((rdOf ByteArray.empty (prefW ws) (i:Int)).size - 1) ∧
    (nodeW (prefW ws) ws (rdOf ByteArray.empty (prefW ws) (i:Int))).f1=(j:Int)∧0≤(nodeW (prefW ws) ws (rdOf ByteArray.empty (prefW ws) (i:Int))).f0∧(nodeW (prefW ws) ws (rdOf ByteArray.empty (prefW ws) (i:Int))).f0≤25 ∧
    rdOf ByteArray.empty (prefW ws) (j:Int) ++ letterW (nodeW (prefW ws) ws (rdOf ByteArray.empty (prefW ws) (i:Int))).f0=rdOf ByteArray.empty (prefW ws) (i:Int):=by
  have hz:=prefW_nonzero ws h0 hi
  obtain ⟨p,hp⟩:∃ p,p=rdOf ByteArray.empty (prefW ws) (i:Int):=⟨_,rfl⟩
  rw [← hp] at hz ⊢
  obtain ⟨j,hj,e1,e2⟩:=cut_idx hi hp hz
  have hm:p ∈ prefW ws:=by rw [hp,rd_nat _ hi];exact List.getElem_mem hi
  obtain ⟨a1,a2,a3⟩:=cut_last (prefW_ok ho hm).2 hz
  refine ⟨j,hj,e1,?_,?_,?_,?_⟩
  · unfold nodeW;rw [if_neg hz];exact congrArg Nat.cast e2
  · unfold nodeW;rw [if_neg hz];exact a1
  · unfold nodeW;rw [if_neg hz];exact a2
  · unfold nodeW;rw [if_neg hz,e1];exact a3
end Go.Proofs.Ytghkbgmbbcaecaa.Q
namespace Go.Proofs.Ytghkbgmbbcaecaa.Q
open Go.RowKit Go.Proofs.YtghkbgmbbcaecaaW.PrintWords Go.Proofs.YtghkbgmbbcaecaaW.PrintLast
theorem bt_nat (a:ByteArray) (i:Nat) (h:i<(lw a).length):bt a (i:Int)=(((lw a)[i]'h).toNat:Int):=by
  have h2:i<a.size:=by rw [← lw_length];exact h
  have:((i:Int)).toNat<a.size:=by simpa using h2
  rw [← bt_at a (i:Int) this]
  rfl
theorem lt_drop:∀ (i:Nat) (x y:Ws),x.take i=y.take i→(x<y ↔ x.drop i<y.drop i)
  | 0,x,y,_=>Iff.rfl
  | i+1,[],[],_=>Iff.rfl
  | i+1,[],b :: y,h=>by simp at h
  | i+1,a :: x,[],h=>by simp at h
  | i+1,a :: x,b :: y,h=>by
    simp only [List.take_succ_cons,List.cons.injEq] at h
    obtain ⟨rfl,h⟩:=h
    rw [List.cons_lt_cons_self,List.drop_succ_cons,List.drop_succ_cons]
    exact lt_drop i x y h
theorem before_l0 (a b:ByteArray) (ha:a.size≤4294967296):∀ (n i:Nat),i+n=a.size→i≤b.size→(lw a).take i=(lw b).take i→Ev (fun k=>spec_l2Before.l0 k a b (i:Int)) (decide (lw a<lw b)):=by
  intro n
  induction n with
  | zero =>
    intro i h hib he
    refine Ev.succ ?_
    simp only [spec_l2Before.l0]
    refine Ev.neg (by omega) (Ev.succ ?_)
    simp only [spec_l2Before.j1]
    refine Ev.neg (by decide) ?_
    have e:decide ((a.size:Int)<(b.size:Int))=decide (lw a<lw b):=by
      refine decide_eq_decide.2 ?_
      rw [lt_drop i _ _ he,List.drop_of_length_le (by rw [lw_length];omega)]
      constructor
      · intro hq
        have hib2:i<(lw b).length:=by rw [lw_length];omega
        rw [List.drop_eq_getElem_cons hib2]
        exact List.nil_lt_cons _ _
      · intro hq
        have:(lw b).drop i ≠ []:=fun hn=>by rw [hn] at hq;exact absurd hq (List.not_lt_nil _)
        have h2:¬ (lw b).length≤i:=fun hn=>this (List.drop_of_length_le hn)
        rw [lw_length] at h2
        omega
    rw [e]
    exact Ev.pure _
  | succ n ih =>
    intro i h hib he
    refine Ev.succ ?_
    simp only [spec_l2Before.l0]
    have hia:i<(lw a).length:=by rw [lw_length];omega
    refine Ev.pos (by omega) (Ev.succ ?_)
    simp only [spec_l2Before.j1]
    by_cases hib2:i<b.size
    · have hbl:i<(lw b).length:=by rw [lw_length];omega
      simp only [bt_nat a i hia,bt_nat b i hbl]
      refine Ev.pos (by simpa using hib2) (Ev.pos (by omega) (Ev.pos (by omega) (Ev.pos (by omega) ?_)))
      by_cases e:(lw a)[i]=(lw b)[i]
      · refine Ev.pos (by rw [e]) ?_
        rw [wnext i (by omega)]
        refine ih (i+1) (by omega) (by omega) ?_
        rw [List.take_succ_eq_append_getElem hia,List.take_succ_eq_append_getElem hbl,he,e]
      · have hne:¬ (((lw a)[i]).toNat:Int)=(((lw b)[i]).toNat:Int):=fun hq=>e (UInt8.toNat.inj (by omega))
        refine Ev.neg hne ?_
        have e2:decide ((((lw a)[i]).toNat:Int)<(((lw b)[i]).toNat:Int))=decide (lw a<lw b):=by
          refine decide_eq_decide.2 ?_
          rw [lt_drop i _ _ he,List.drop_eq_getElem_cons hia,List.drop_eq_getElem_cons hbl,List.cons_lt_cons_iff]
          constructor
          · intro hq;exact .inl (UInt8.lt_iff_toNat_lt.2 (by omega))
          · rintro (hq|hq)
            · have:=UInt8.lt_iff_toNat_lt.1 hq;omega
            · exact absurd hq.1 e
        rw [e2]
        exact Ev.pure _
    · refine Ev.neg (by simpa using hib2) ?_
      have e:decide ((a.size:Int)<(b.size:Int))=decide (lw a<lw b):=by
        refine decide_eq_decide.2 ?_
        rw [lt_drop i _ _ he,List.drop_of_length_le (show (lw b).length≤i by rw [lw_length];omega)]
        exact ⟨fun hq=>absurd hq (by omega),fun hq=>absurd hq (List.not_lt_nil _)⟩
      rw [e]
      exact Ev.pure _
theorem before_ev (a b:ByteArray) (ha:a.size≤4294967296):Ev (fun k=>spec_l2Before.f k a b) (decide (lw a<lw b)):=by
  unfold spec_l2Before.f
  exact before_l0 a b ha a.size 0 (by omega) (by omega) rfl
instance (w:ByteArray):Decidable (letters w):=inferInstanceAs (Decidable (∀ x ∈ lw w,97≤x.toNat∧x.toNat≤122))
instance (w:ByteArray):Decidable (okWord w):=inferInstanceAs (Decidable (w.size≤12∧letters w))
theorem word_l0 (a:ByteArray):∀ (n i:Nat),i+n=min a.size 13→(∀ x ∈ (lw a).take i,97≤x.toNat∧x.toNat≤122)→Ev (fun k=>spec_l2Word.l0 k a (i:Int)) (decide (okWord a)):=by
  intro n
  induction n with
  | zero =>
    intro i h hx
    refine Ev.succ ?_
    simp only [spec_l2Word.l0]
    have e:decide ((a.size:Int)≤12)=decide (okWord a):=by
      refine decide_eq_decide.2 ⟨fun hs=>⟨by omega,?_⟩,fun h=>by have:=h.1;omega⟩
      rw [List.take_of_length_le (by rw [lw_length];omega)] at hx
      exact hx
    by_cases hs:a.size≤12
    · refine Ev.neg (by omega) (Ev.succ ?_)
      simp only [spec_l2Word.j1]
      refine Ev.neg (by decide) ?_
      rw [e]
      exact Ev.pure _
    · have e1:i=13:=by omega
      by_cases h13:13<a.size
      · refine Ev.pos (by omega) (Ev.succ ?_)
        simp only [spec_l2Word.j1]
        refine Ev.neg (by simp;omega) ?_
        rw [e]
        exact Ev.pure _
      · refine Ev.neg (by omega) (Ev.succ ?_)
        simp only [spec_l2Word.j1]
        refine Ev.neg (by decide) ?_
        rw [e]
        exact Ev.pure _
  | succ n ih =>
    intro i h hx
    refine Ev.succ ?_
    simp only [spec_l2Word.l0]
    have hi:i<(lw a).length:=by rw [lw_length];omega
    refine Ev.pos (by omega) (Ev.succ ?_)
    simp only [spec_l2Word.j1,bt_nat a i hi]
    refine Ev.pos (by simp;omega) (Ev.pos (by omega) (Ev.pos (by omega) ?_))
    have hnot:¬ (97≤((lw a)[i]).toNat∧((lw a)[i]).toNat≤122)→decide (okWord a)=false:=fun hq=>decide_eq_false (fun ho=>hq (ho.2 _ (List.getElem_mem hi)))
    by_cases h1:97≤((lw a)[i]).toNat
    · refine Ev.neg (by omega) ?_
      by_cases h2:((lw a)[i]).toNat≤122
      · refine Ev.neg (by omega) ?_
        rw [wnext i (by omega)]
        refine ih (i+1) (by omega) (fun x hm=>?_)
        rw [List.take_succ_eq_append_getElem hi] at hm
        rcases List.mem_append.1 hm with hm|hm
        · exact hx x hm
        · rw [List.mem_singleton.1 hm];exact ⟨h1,h2⟩
      · rw [hnot (by omega)]
        exact Ev.pos (by omega) (Ev.pure _)
    · rw [hnot (by omega)]
      exact Ev.pos (by omega) (Ev.pure _)
theorem word_ev (a:ByteArray):Ev (fun k=>spec_l2Word.f k a) (decide (okWord a)):=by
  unfold spec_l2Word.f
  exact word_l0 a (min a.size 13) 0 (by omega) (fun x hx=>by cases hx)
theorem own_eq (l:List ByteArray) (hl:l.length<8796093022208):spec_l2Own.f l=some l:=by
  unfold spec_l2Own.f
  simp only [Option.bind_some,List.length_nil,Nat.zero_add,List.nil_append]
  rw [if_pos hl]
theorem ins_ss {l:List ByteArray} {w:ByteArray} {i:Nat} (h:SS l) (h1:∀ x ∈ l.take i,lw x<lw w) (h2:∀ x ∈ l.drop i,lw w<lw x):(l.take i ++ [w]) ++ l.drop i=setW (w :: l):=by
  have e:l=l.take i ++ l.drop i:=(List.take_append_drop i l).symm
  refine ss_ext ?_ (setW_ss _) (fun x=>?_)
  · unfold SS at h ⊢
    rw [e,List.pairwise_append] at h
    rw [List.append_assoc,List.pairwise_append]
    refine ⟨h.1,?_,fun a ha b hb=>?_⟩
    · rw [List.singleton_append,List.pairwise_cons]
      exact ⟨h2,h.2.1⟩
    · rcases List.mem_append.1 hb with hb|hb
      · rw [List.mem_singleton.1 hb];exact h1 a ha
      · exact h.2.2 a ha b hb
  · rw [mem_setW,List.mem_cons]
    constructor
    · intro hx
      rcases List.mem_append.1 hx with hx|hx
      · rcases List.mem_append.1 hx with hx|hx
        · exact .inr (List.mem_of_mem_take hx)
        · exact .inl (List.mem_singleton.1 hx)
      · exact .inr (List.mem_of_mem_drop hx)
    · rintro (rfl|hx)
      · simp
      · rw [e] at hx
        rcases List.mem_append.1 hx with hx|hx
        · exact List.mem_append_left _ (List.mem_append_left _ hx)
        · exact List.mem_append_right _ hx
theorem put_l0 (l:List ByteArray) (w:ByteArray) (hl:l.length≤4294967296) (hz:∀ x ∈ l,x.size≤4294967296) (hs:SS l):∀ (n i:Nat),i+n=l.length→(∀ x ∈ l.take i,lw x<lw w)→Ev (fun k=>spec_l2Put.l0 k l w (i:Int)) (setW (w :: l)):=by
  intro n
  induction n with
  | zero =>
    intro i h h1
    refine Ev.succ ?_
    simp only [spec_l2Put.l0]
    have e1:(l.take i).length=i:=by rw [List.length_take];omega
    refine Ev.neg (by omega) (Ev.pos (by omega) (Ev.pos (by omega) (Ev.bindc (own_eq _ (by rw [Int.toNat_natCast,e1];omega)) ?_)))
    simp only [Option.bind_some,Int.toNat_natCast]
    refine Ev.pos (by simp;omega) (Ev.pos (by simp;omega) ?_)
    rw [ins_ss hs h1 (by rw [List.drop_of_length_le (by omega)];intro x hx;cases hx)]
    exact Ev.pure _
  | succ n ih =>
    intro i h h1
    refine Ev.succ ?_
    simp only [spec_l2Put.l0]
    have hi:i<l.length:=by omega
    have e1:(l.take i).length=i:=by rw [List.length_take];omega
    refine Ev.pos (by omega) (Ev.pos (by omega) ?_)
    simp only [rd_nat l hi]
    refine Ev.bind (before_ev _ _ (hz _ (List.getElem_mem hi))) ?_
    by_cases hb:lw l[i]<lw w
    · refine Ev.pos (decide_eq_true hb) ?_
      rw [wnext i (by omega)]
      refine ih (i+1) (by omega) (fun x hx=>?_)
      rw [List.take_succ_eq_append_getElem hi] at hx
      rcases List.mem_append.1 hx with hx|hx
      · exact h1 x hx
      · rw [List.mem_singleton.1 hx];exact hb
    · refine Ev.neg (fun h2=>hb (of_decide_eq_true h2)) ?_
      by_cases e:l[i]=w
      · refine Ev.pos ((tl_eq _ _).2 e) ?_
        have e2:setW (w :: l)=l:=ss_ext (setW_ss _) hs (fun x=>by
          rw [mem_setW,List.mem_cons]
          exact ⟨fun hx=>hx.elim (fun hx=>by rw [hx,← e];exact List.getElem_mem hi) id,.inr⟩)
        rw [e2]
        exact Ev.pure _
      · have hgt:lw w<lw l[i]:=by
          refine List.not_le.1 (fun hle=>?_)
          exact e (lw_inj (List.le_antisymm hle (List.not_lt.1 hb)))
        refine Ev.neg (fun h2=>e ((tl_eq _ _).1 h2)) (Ev.pos (by omega) (Ev.bindc (own_eq _ (by rw [Int.toNat_natCast,e1];omega)) ?_))
        simp only [Option.bind_some,Int.toNat_natCast]
        refine Ev.pos (by simp;omega) (Ev.pos (by simp;omega) ?_)
        rw [ins_ss hs h1 (fun x hx=>?_)]
        · exact Ev.pure _
        · rw [List.drop_eq_getElem_cons hi] at hx
          rcases List.mem_cons.1 hx with rfl|hx
          · exact hgt
          · have:=List.pairwise_append.1 ((List.take_append_drop (i+1) l).symm ▸ hs:SS (l.take (i+1) ++ l.drop (i+1)))
            have hm:l[i] ∈ l.take (i+1):=by
              rw [List.take_succ_eq_append_getElem hi]
              exact List.mem_append_right _ (List.mem_singleton.2 rfl)
            exact List.lt_trans hgt (this.2.2 l[i] hm x hx)
theorem put_ev (l:List ByteArray) (w:ByteArray) (hl:l.length≤4294967296) (hz:∀ x ∈ l,x.size≤4294967296) (hs:SS l):Ev (fun k=>spec_l2Put.f k l w) (setW (w :: l)):=by
  unfold spec_l2Put.f
  exact put_l0 l w hl hz hs l.length 0 (by omega) (fun x hx=>by cases hx)
end Go.Proofs.Ytghkbgmbbcaecaa.Q
namespace Go.Proofs.Ytghkbgmbbcaecaa.Q
open Go.RowKit Go.Proofs.YtghkbgmbbcaecaaW.PrintWords Go.Proofs.YtghkbgmbbcaecaaW.PrintLast
def setRes (l:List ByteArray):List ByteArray × Bool:=if ∀ w ∈ l,okWord w then (setW l,decide (((setW l).length:Int)≤40)) else ([],false)
theorem setW_cons_set (w:ByteArray) (l:List ByteArray):setW (w :: setW l)=setW (l ++ [w]):=ss_ext (setW_ss _) (setW_ss _) (fun x=>by
  rw [mem_setW,mem_setW,List.mem_cons,mem_setW,List.mem_append,List.mem_singleton]
  exact or_comm)
theorem set_l0 (l:List ByteArray) (hl:l.length≤4294967296):∀ (n i:Nat),i+n=l.length→(∀ w ∈ l.take i,okWord w)→Ev (fun k=>spec_l2Set.l0 k l (setW (l.take i)) (i:Int)) (setRes l):=by
  intro n
  induction n with
  | zero =>
    intro i h ho
    refine Ev.succ ?_
    simp only [spec_l2Set.l0]
    rw [List.take_of_length_le (by omega)] at ho ⊢
    unfold setRes
    rw [if_pos ho]
    exact Ev.neg (by omega) (Ev.pure _)
  | succ n ih =>
    intro i h ho
    refine Ev.succ ?_
    simp only [spec_l2Set.l0]
    have hi:i<l.length:=by omega
    refine Ev.pos (by omega) (Ev.pos (by omega) ?_)
    simp only [rd_nat l hi]
    refine Ev.bind (word_ev _) ?_
    by_cases hw:okWord l[i]
    · have h1:=setW_len (l.take i)
      rw [List.length_take] at h1
      refine Ev.pos (decide_eq_true hw) (Ev.bind (put_ev _ _ (by omega) (fun x hx=>by have:=(ho x (mem_setW.1 hx)).1;omega) (setW_ss _)) ?_)
      rw [wnext i (by omega),setW_cons_set,← List.take_succ_eq_append_getElem hi]
      refine ih (i+1) (by omega) (fun w hm=>?_)
      rw [List.take_succ_eq_append_getElem hi] at hm
      rcases List.mem_append.1 hm with hm|hm
      · exact ho w hm
      · rw [List.mem_singleton.1 hm];exact hw
    · refine Ev.neg (fun h2=>hw (of_decide_eq_true h2)) ?_
      unfold setRes
      rw [if_neg (fun hf=>hw (hf _ (List.getElem_mem hi)))]
      exact Ev.pure _
theorem set_ev (l:List ByteArray) (hl:l.length≤4294967296):Ev (fun k=>spec_l2Set.f k l) (setRes l):=by
  unfold spec_l2Set.f
  have e:setW (l.take 0)=[]:=List.eq_nil_of_length_eq_zero (Nat.le_zero.1 (setW_len _))
  have:=set_l0 l hl l.length 0 (by omega) (fun w hw=>by cases hw)
  rw [e] at this
  exact this
theorem has_l0 (l:List ByteArray) (x:ByteArray) (hl:l.length≤4294967296):∀ (n i:Nat),i+n=l.length→(∀ y ∈ l.take i,y ≠ x)→Ev (fun k=>spec_l2Has.l0 k l x (i:Int)) (hasW l x):=by
  intro n
  induction n with
  | zero =>
    intro i h ho
    refine Ev.succ ?_
    simp only [spec_l2Has.l0]
    rw [List.take_of_length_le (by omega)] at ho
    have e:hasW l x=false:=by
      rw [Bool.eq_false_iff]
      intro hf
      exact ho x ((hasW_iff l x).1 hf) rfl
    rw [e]
    exact Ev.neg (by omega) (Ev.pure _)
  | succ n ih =>
    intro i h ho
    refine Ev.succ ?_
    simp only [spec_l2Has.l0]
    have hi:i<l.length:=by omega
    refine Ev.pos (by omega) (Ev.pos (by omega) ?_)
    simp only [rd_nat l hi]
    by_cases e:l[i]=x
    · have e2:hasW l x=true:=(hasW_iff l x).2 (e ▸ List.getElem_mem hi)
      rw [e2]
      exact Ev.pos ((tl_eq _ _).2 e) (Ev.pure _)
    · refine Ev.neg (fun h2=>e ((tl_eq _ _).1 h2)) ?_
      rw [wnext i (by omega)]
      refine ih (i+1) (by omega) (fun y hm=>?_)
      rw [List.take_succ_eq_append_getElem hi] at hm
      rcases List.mem_append.1 hm with hm|hm
      · exact ho y hm
      · rw [List.mem_singleton.1 hm];exact e
theorem has_ev (l:List ByteArray) (x:ByteArray) (hl:l.length≤4294967296):Ev (fun k=>spec_l2Has.f k l x) (hasW l x):=by
  unfold spec_l2Has.f
  exact has_l0 l x hl l.length 0 (by omega) (fun w hw=>by cases hw)
def placeW (l:List ByteArray) (x:ByteArray):Int:=if hasW l x=true then (l.findIdx (fun y=>decide (y=x)):Int) else -1
theorem place_l0 (l:List ByteArray) (x:ByteArray) (hl:l.length≤4294967296):∀ (n i:Nat),i+n=l.length→(∀ y ∈ l.take i,y ≠ x)→Ev (fun k=>spec_l2Place.l0 k l x (i:Int)) (placeW l x):=by
  intro n
  induction n with
  | zero =>
    intro i h ho
    refine Ev.succ ?_
    simp only [spec_l2Place.l0]
    rw [List.take_of_length_le (by omega)] at ho
    unfold placeW
    rw [if_neg (fun hf=>ho x ((hasW_iff l x).1 hf) rfl)]
    exact Ev.neg (by omega) (Ev.pure _)
  | succ n ih =>
    intro i h ho
    refine Ev.succ ?_
    simp only [spec_l2Place.l0]
    have hi:i<l.length:=by omega
    refine Ev.pos (by omega) (Ev.pos (by omega) ?_)
    simp only [rd_nat l hi]
    by_cases e:l[i]=x
    · have e3:l.findIdx (fun y=>decide (y=x))=i:=by
        refine (List.findIdx_eq hi).2 ⟨by simp [e],fun j hj=>?_⟩
        have:l[j] ∈ l.take i:=List.mem_take_iff_getElem.2 ⟨j,by omega,rfl⟩
        exact decide_eq_false (ho _ this)
      unfold placeW
      rw [if_pos ((hasW_iff l x).2 (e ▸ List.getElem_mem hi)),e3]
      exact Ev.pos ((tl_eq _ _).2 e) (Ev.pure _)
    · refine Ev.neg (fun h2=>e ((tl_eq _ _).1 h2)) ?_
      rw [wnext i (by omega)]
      refine ih (i+1) (by omega) (fun y hm=>?_)
      rw [List.take_succ_eq_append_getElem hi] at hm
      rcases List.mem_append.1 hm with hm|hm
      · exact ho y hm
      · rw [List.mem_singleton.1 hm];exact e
theorem place_ev (l:List ByteArray) (x:ByteArray) (hl:l.length≤4294967296):Ev (fun k=>spec_l2Place.f k l x) (placeW l x):=by
  unfold spec_l2Place.f
  exact place_l0 l x hl l.length 0 (by omega) (fun w hw=>by cases hw)
theorem of_l2 (ws:List ByteArray) (ho:∀ w ∈ ws,okWord w) (hl:ws.length≤1000000):∀ (n i:Nat),i+n=(prefW ws).length→Ev (fun k=>spec_l2Of.l2 k ws (prefW ws) (i:Int) ((trieW ws).take i)) (trieW ws):=by
  have hle:=prefW_le ws (fun w hw=>(ho w hw).1)
  intro n
  induction n with
  | zero =>
    intro i h
    refine Ev.succ ?_
    simp only [spec_l2Of.l2]
    rw [List.take_of_length_le (by rw [trieW_length];omega)]
    exact Ev.neg (by omega) (Ev.pure _)
  | succ n ih =>
    intro i h
    refine Ev.succ ?_
    simp only [spec_l2Of.l2]
    have hi:i<(prefW ws).length:=by omega
    have hi2:i<(trieW ws).length:=by rw [trieW_length];exact hi
    have hlt:((trieW ws).take i).length=i:=by rw [List.length_take];omega
    refine Ev.pos (by omega) (Ev.pos (by omega) (Ev.bind (has_ev ws _ (by omega)) ?_))
    have hq:=ih (i+1) (by omega)
    rw [List.take_succ_eq_append_getElem hi2,trieW_at ws hi] at hq
    obtain ⟨p,hp⟩:∃ p,p=rdOf ByteArray.empty (prefW ws) (i:Int):=⟨_,rfl⟩
    rw [← hp] at hq ⊢
    have hm:p ∈ prefW ws:=by rw [hp,rd_nat _ hi];exact List.getElem_mem hi
    have hsz:=(prefW_ok ho hm).1
    by_cases h0:0<i
    · have hz:=prefW_nonzero ws h0 hi
      rw [← hp] at hz
      have e1:wrap64 ((p.size:Int) - 1)=((p.size - 1:Nat):Int):=by unfold wrap64;omega
      rw [e1]
      refine Ev.pos (by omega) (Ev.pos (by omega) (Ev.pos (by omega) (Ev.pos (by omega) (Ev.bind (place_ev _ _ (by omega)) (Ev.pos (by omega) ?_)))))
      rw [wnext i (by omega)]
      have e2:(⟨(bt p ((p.size - 1:Nat):Int) - 97) % 256,placeW (prefW ws) (p.extract 0 (((p.size - 1:Nat):Int)).toNat),hasW ws p⟩:IN)=nodeW (prefW ws) ws p:=by
        unfold nodeW placeW
        rw [if_neg hz,Int.toNat_natCast,if_pos ((hasW_iff _ _).2 (prefW_closed hm))]
        have e3:((p.size - 1:Nat):Int)=(p.size:Int) - 1:=by omega
        rw [e3]
        congr 1
        omega
      rw [e2]
      exact hq
    · have hi0:i=0:=by omega
      have hz:p.size=0:=by
        rw [hp,hi0]
        have:=prefW_zero ws
        rw [show ((0:Nat):Int)=0 from rfl,this];rfl
      rw [node_root hz] at hq
      refine Ev.neg (by omega) (Ev.pos (by omega) ?_)
      rw [wnext i (by omega)]
      exact hq
theorem pfx_le (w:ByteArray) (n:Nat) (x:ByteArray) (h:x ∈ pfx w n):x.size≤w.size:=by
  obtain ⟨j,_,rfl⟩:=List.mem_map.1 h
  rw [ByteArray.size_extract];omega
theorem allPfx_size {ws:List ByteArray} (ho:∀ w ∈ ws,okWord w) {x:ByteArray} (h:x ∈ allPfx ws):x.size≤12:=by
  unfold allPfx at h
  rcases List.mem_cons.1 h with rfl|h
  · exact Nat.zero_le _
  · obtain ⟨w,hw,hx⟩:=List.mem_flatMap.1 h
    exact Nat.le_trans (pfx_le w _ x hx) (ho w hw).1
theorem of_l0 (ws:List ByteArray) (ho:∀ w ∈ ws,okWord w) (hl:ws.length≤1000000):∀ (n i:Nat),i+n=ws.length→Ev (fun k=>spec_l2Of.l0 k ws (setW (allPfx (ws.take i))) (i:Int)) (trieW ws):=by
  intro n
  induction n with
  | zero =>
    intro i h
    refine Ev.succ ?_
    simp only [spec_l2Of.l0]
    rw [List.take_of_length_le (by omega)]
    refine Ev.neg (by omega) ?_
    have:=of_l2 ws ho hl (prefW ws).length 0 (by omega)
    exact this
  | succ n ih =>
    intro i h
    have hi:i<ws.length:=by omega
    have hok:=ho _ (List.getElem_mem hi)
    refine Ev.succ ?_
    simp only [spec_l2Of.l0]
    refine Ev.pos (by omega) ?_
    have hot:∀ w ∈ ws.take i,okWord w:=fun w hw=>ho w (List.mem_of_mem_take hw)
    have hal:=allPfx_len (ws.take i) (fun w hw=>(hot w hw).1)
    rw [List.length_take] at hal
    have key:∀ (m j:Nat),j+m=ws[i].size→Ev (fun k=>spec_l2Of.l1 k ws (setW (allPfx (ws.take i) ++ pfx ws[i] j)) (i:Int) ((j:Int)+1)) (trieW ws):=by
      intro m
      induction m with
      | zero =>
        intro j hj
        refine Ev.succ ?_
        simp only [spec_l2Of.l1,rd_nat ws hi]
        refine Ev.pos (by omega) (Ev.pos (by omega) (Ev.neg (by omega) ?_))
        rw [wnext i (by omega)]
        have hq:=ih (i+1) (by omega)
        rw [allPfx_take ws i hi,rd_nat ws hi] at hq
        have:j=ws[i].size:=by omega
        rw [this]
        exact hq
      | succ m ihm =>
        intro j hj
        refine Ev.succ ?_
        simp only [spec_l2Of.l1,rd_nat ws hi]
        have h12:=hok.1
        have hln:=setW_len (allPfx (ws.take i) ++ pfx ws[i] j)
        rw [List.length_append,pfx_length] at hln
        refine Ev.pos (by omega) (Ev.pos (by omega) (Ev.pos (by omega) (Ev.pos (by omega) (Ev.bind (put_ev _ _ (by omega) (fun x hx=>?_) (setW_ss _)) ?_))))
        · rcases List.mem_append.1 (mem_setW.1 hx) with hx|hx
          · have:=allPfx_size hot hx;omega
          · have:=pfx_le _ _ _ hx;omega
        · have e1:wrap64 ((j:Int)+1+1)=((j+1:Nat):Int)+1:=by unfold wrap64;omega
          have e2:((j:Int)+1).toNat=j+1:=by omega
          rw [e1,e2,setW_cons_set,List.append_assoc,← pfx_succ]
          exact ihm (j+1) (by omega)
    have:=key ws[i].size 0 (by omega)
    have e:pfx ws[i] 0=[]:=rfl
    rw [e,List.append_nil] at this
    exact this
theorem of_ev (ws:List ByteArray) (ho:∀ w ∈ ws,okWord w) (hl:ws.length≤1000000):Ev (fun k=>spec_l2Of.f k ws) (trieW ws):=by
  unfold spec_l2Of.f
  have:=of_l0 ws ho hl ws.length 0 (by omega)
  have e:setW (allPfx (ws.take 0))=[⟨#[]⟩]:=ss_ext (setW_ss _) (List.pairwise_singleton _ _) (fun x=>by rw [mem_setW];exact Iff.rfl)
  rw [e] at this
  exact this
end Go.Proofs.Ytghkbgmbbcaecaa.Q
namespace Go.Proofs.Ytghkbgmbbcaecaa.Q
open Go.RowKit Go.Proofs.YtghkbgmbbcaecaaW.PrintWords Go.Proofs.YtghkbgmbbcaecaaW.PrintLast
theorem trie_le {ws:List ByteArray} (h:VW ws):(trieW ws).length≤481:=by
  have h2:=prefW_le ws (fun w hw=>(h.ok w hw).1)
  have h3:=h.len
  rw [trieW_length]
  omega
end Go.Proofs.Ytghkbgmbbcaecaa.Q
namespace Go.Proofs.Ytghkbgmbbcaecaa.Q
open Go.RowKit Go.Proofs.YtghkbgmbbcaecaaW.PrintWords Go.Proofs.YtghkbgmbbcaecaaW.PrintLast
theorem idx_inj {ps:List ByteArray} (h:SS ps) {a b:Nat} (ha:a<ps.length) (hb:b<ps.length) (e:rdOf ByteArray.empty ps (a:Int)=rdOf ByteArray.empty ps (b:Int)):a=b:=by
  rcases Nat.lt_trichotomy a b with h1|h1|h1
  · have:=ss_at h h1 hb;rw [e] at this;exact absurd this (List.lt_irrefl _)
  · exact h1
  · have:=ss_at h h1 ha;rw [e] at this;exact absurd this (List.lt_irrefl _)
theorem rd_trieW (ws:List ByteArray) {i:Nat} (hi:i<(prefW ws).length):rT (trieW ws) (i:Int)=nodeW (prefW ws) ws (rdOf ByteArray.empty (prefW ws) (i:Int)):=by
  rw [rd_nat' _ i (by rw [trieW_length];exact hi),trieW_at ws hi]
theorem node0 (ws:List ByteArray):(rT (trieW ws) ((0:Nat):Int)).f1=-1:=by
  rw [rd_trieW ws (prefW_pos ws)]
  have h:=prefW_zero ws
  rw [show ((0:Nat):Int)=0 from rfl,h]
  rfl
theorem par_lt {ws:List ByteArray} (ho:∀ w ∈ ws,okWord w) {i:Nat} (hi:i<(prefW ws).length):(rT (trieW ws) (i:Int)).f1<(i:Int):=by
  by_cases h0:0<i
  · rw [rd_trieW ws hi]
    obtain ⟨m,hm,_,e1,_,_,_⟩:=node_at ws ho h0 hi
    rw [e1];omega
  · obtain rfl:i=0:=by omega
    rw [node0];omega
theorem par_at {ws:List ByteArray} (ho:∀ w ∈ ws,okWord w) {i:Nat} (h0:0<i) (hi:i<(prefW ws).length):∃ j c,j<i∧(rT (trieW ws) (i:Int)).f1=(j:Int)∧(rT (trieW ws) (i:Int)).f0=c∧0≤c∧c≤25∧rdOf ByteArray.empty (prefW ws) (i:Int)=rdOf ByteArray.empty (prefW ws) (j:Int) ++ letterW c:=by
  rw [rd_trieW ws hi]
  obtain ⟨m,hm,_,e1,e2,e3,e4⟩:=node_at ws ho h0 hi
  exact ⟨m,_,hm,e1,rfl,e2,e3,e4.symm⟩
def kidsF (l:List IN) (a:Int):List Nat→List Int
  | []=>[]
  | i :: r=>if (rT l (i:Int)).f1=a then (i:Int) :: kidsF l a r else kidsF l a r
def kidsW (l:List IN) (a:Int):List Int:=kidsF l a (List.range' 0 l.length)
theorem kidsF_append (l:List IN) (a:Int) (x y:List Nat):kidsF l a (x ++ y)=kidsF l a x ++ kidsF l a y:=by
  induction x with
  | nil=>rfl
  | cons i x ih=>simp only [List.cons_append,kidsF,ih];split <;> rfl
theorem kidsF_nil (l:List IN) (a:Int):∀ (x:List Nat),(∀ i ∈ x,(rT l (i:Int)).f1 ≠ a)→kidsF l a x=[]
  | [],_=>rfl
  | i :: x,h=>by
    simp only [kidsF]
    rw [if_neg (h i (List.mem_cons_self ..))]
    exact kidsF_nil l a x (fun j hj=>h j (List.mem_cons_of_mem _ hj))
theorem kidsF_mem {l:List IN} {a:Int}:∀ {r:List Nat} {x:Int},x ∈ kidsF l a r→∃ i ∈ r,x=(i:Int)∧(rT l (i:Int)).f1=a
  | i :: r,x,h=>by
    simp only [kidsF] at h
    split at h
    · rename_i hc
      rcases List.mem_cons.1 h with h|h
      · exact ⟨i,List.mem_cons_self ..,h,hc⟩
      · obtain ⟨j,hj,e⟩:=kidsF_mem h
        exact ⟨j,List.mem_cons_of_mem _ hj,e⟩
    · obtain ⟨j,hj,e⟩:=kidsF_mem h
      exact ⟨j,List.mem_cons_of_mem _ hj,e⟩
theorem kidsF_asc {l:List IN} {a:Int}:∀ {r:List Nat},r.Pairwise (·<·)→(kidsF l a r).Pairwise (·<·)
  | [],_=>List.Pairwise.nil
  | i :: r,h=>by
    obtain ⟨h1,h2⟩:=List.pairwise_cons.1 h
    have h3:=kidsF_asc (l:=l) (a:=a) h2
    simp only [kidsF]
    split
    · refine List.pairwise_cons.2 ⟨fun x hx=>?_,h3⟩
      obtain ⟨j,hj,e,_⟩:=kidsF_mem hx
      have:=h1 j hj
      omega
    · exact h3
theorem kidsW_mem {ws:List ByteArray} (ho:∀ w ∈ ws,okWord w) {a:Nat} {x:Int} (h:x ∈ kidsW (trieW ws) (a:Int)):∃ i c,x=((i:Nat):Int)∧a<i∧i<(prefW ws).length∧0≤c∧c≤25∧(rT (trieW ws) (i:Int)).f0=c∧rdOf ByteArray.empty (prefW ws) (i:Int)=rdOf ByteArray.empty (prefW ws) (a:Int) ++ letterW c:=by
  obtain ⟨i,hi,rfl,hp⟩:=kidsF_mem h
  have hi2:i<(prefW ws).length:=by
    have:=List.mem_range'_1.1 hi
    rw [trieW_length] at this
    omega
  have hl:=par_lt ho hi2
  rw [hp] at hl
  obtain ⟨j,c,hj,e1,e2,e3,e4,e5⟩:=par_at ho (by omega) hi2
  obtain rfl:j=a:=by rw [e1] at hp;omega
  exact ⟨i,c,rfl,by omega,hi2,e3,e4,e2,e5⟩
end Go.Proofs.Ytghkbgmbbcaecaa.Q
namespace Go.Proofs.Ytghkbgmbbcaecaa.Q
open Go.RowKit Go.Proofs.YtghkbgmbbcaecaaW.PrintWords Go.Proofs.YtghkbgmbbcaecaaW.PrintLast
theorem specKids_l0 (l:List IN) (a:Int) (hl:l.length≤1048576):∀ (n i:Nat) (acc:List Int),i+n=l.length→acc.length≤i→Ev (fun k=>spec_l2Kids.l0 k a acc (i:Int) l) (acc ++ kidsF l a (List.range' i n)):=by
  intro n
  induction n with
  | zero =>
    intro i acc h ha
    refine Ev.succ ?_
    simp only [spec_l2Kids.l0,List.range'_zero,kidsF,List.append_nil]
    exact Ev.neg (by omega) (Ev.pure _)
  | succ n ih =>
    intro i acc h ha
    refine Ev.succ ?_
    simp only [spec_l2Kids.l0,List.range'_succ,kidsF]
    rw [wnext i (by omega)]
    refine Ev.pos (by omega) (Ev.pos (by omega) ?_)
    by_cases e:(rT l (i:Int)).f1=a
    · rw [if_pos e]
      refine Ev.pos e (Ev.pos (by omega) ?_)
      have:=ih (i+1) (acc ++ [(i:Int)]) (by omega) (by simp;omega)
      simpa using this
    · rw [if_neg e]
      exact Ev.neg e (ih (i+1) acc (by omega) (by omega))
theorem implKids_l0 (l:List IN) (a:Int) (hl:l.length≤1048576):∀ (n i:Nat) (acc:List Int),i+n=l.length→acc.length≤i→Ev (fun k=>impl_Trie_kids.l0 k a acc l (l.length:Int) (i:Int)) (acc ++ kidsF l a (List.range' i n)):=by
  intro n
  induction n with
  | zero =>
    intro i acc h ha
    refine Ev.succ ?_
    simp only [impl_Trie_kids.l0,List.range'_zero,kidsF,List.append_nil]
    exact Ev.neg (by omega) (Ev.pure _)
  | succ n ih =>
    intro i acc h ha
    refine Ev.succ ?_
    simp only [impl_Trie_kids.l0,List.range'_succ,kidsF]
    rw [wnext i (by omega)]
    refine Ev.pos (by omega) (Ev.pos (by omega) (Ev.pos (by omega) ?_))
    by_cases e:(rT l (i:Int)).f1=a
    · rw [if_pos e]
      refine Ev.pos e (Ev.pos (by omega) ?_)
      have:=ih (i+1) (acc ++ [(i:Int)]) (by omega) (by simp;omega)
      simpa using this
    · rw [if_neg e]
      exact Ev.neg e (ih (i+1) acc (by omega) (by omega))
theorem implKids (l:List IN) (a:Int) (hl:l.length≤1048576):Ev (fun k=>impl_Trie_kids.f k l a) (kidsW l a):=by
  unfold impl_Trie_kids.f
  exact implKids_l0 l a hl l.length 0 [] (by omega) (Nat.le_refl _)
theorem specKids {ws:List ByteArray} (hv:VW ws) (a:Nat) (ha:a<(prefW ws).length):Ev (fun k=>spec_l2Kids.f k (trieW ws) (a:Int)) (kidsW (trieW ws) (a:Int)):=by
  have hn:=trie_le hv
  have hn2:=trieW_length ws
  unfold spec_l2Kids.f
  rw [wnext a (by omega)]
  have:=specKids_l0 (trieW ws) (a:Int) (by omega) ((trieW ws).length - (a+1)) (a+1) [] (by omega) (Nat.zero_le _)
  rw [List.nil_append] at this
  have e:kidsW (trieW ws) (a:Int)=kidsF (trieW ws) (a:Int) (List.range' (a+1) ((trieW ws).length - (a+1))):=by
    unfold kidsW
    have e2:List.range' 0 (trieW ws).length=List.range' 0 (a+1) ++ List.range' (a+1) ((trieW ws).length - (a+1)):=by
      have:=List.range'_append_1 (s:=0) (m:=a+1) (n:=(trieW ws).length - (a+1))
      rw [Nat.zero_add] at this
      rw [this]
      congr 1
      omega
    rw [e2,kidsF_append,kidsF_nil _ _ (List.range' 0 (a+1)),List.nil_append]
    intro i hi
    have hi2:=(List.mem_range'_1.1 hi).2
    have:=par_lt hv.ok (i:=i) (by omega)
    omega
  rw [e]
  exact this
end Go.Proofs.Ytghkbgmbbcaecaa.Q
namespace Go.Proofs.Ytghkbgmbbcaecaa.Q
open Go.RowKit Go.Proofs.YtghkbgmbbcaecaaW.PrintWords Go.Proofs.YtghkbgmbbcaecaaW.PrintLast
def baseX (l:List IN) (a:Int):ByteArray:=if a > 0 then letterW (rT l a).f0 else ⟨#[]⟩
def headX (l:List IN) (a:Int):ByteArray:=if (rT l a).f2=true then baseX l a ++ ⟨#[46]⟩ else baseX l a
def textX (l:List IN):Nat→Int→ByteArray
  | 0,_=>ByteArray.empty
  | n+1,a=>if (kidsW l a).length=0 then headX l a else (kidsW l a).foldl (fun s x=>s ++ textX l n x) (headX l a ++ ⟨#[40]⟩) ++ ⟨#[41]⟩
def bndX:Nat→Nat
  | 0=>0
  | n+1=>4+26 * bndX n
theorem baseX_size (l:List IN) (a:Int):(baseX l a).size≤1:=by
  unfold baseX
  split
  · rw [letterW_size];exact Nat.le_refl _
  · exact Nat.zero_le _
theorem headX_size (l:List IN) (a:Int):(headX l a).size≤2:=by
  have:=baseX_size l a
  unfold headX
  split
  · rw [size_app]
    have e:(⟨#[46]⟩:ByteArray).size=1:=rfl
    omega
  · omega
theorem fold_size (T:Int→ByteArray) (B:Nat):∀ (ks:List Int) (s:ByteArray),(∀ x ∈ ks,(T x).size≤B)→(ks.foldl (fun s x=>s ++ T x) s).size≤s.size+ks.length * B
  | [],s,_=>by simp
  | x :: ks,s,h=>by
    have h1:=h x (List.mem_cons_self ..)
    have h2:=fold_size T B ks (s ++ T x) (fun y hy=>h y (List.mem_cons_of_mem _ hy))
    rw [size_app] at h2
    simp only [List.foldl_cons,List.length_cons,Nat.succ_mul]
    omega
theorem asc_len:∀ (l:List Int) (lo:Int),l.Pairwise (·<·)→(∀ x ∈ l,lo≤x∧x≤25)→(l.length:Int)≤max 0 (26 - lo)
  | [],lo,_,_=>by simp;omega
  | x :: l,lo,h,hb=>by
    obtain ⟨h1,h2⟩:=List.pairwise_cons.1 h
    have h3:=hb x (List.mem_cons_self ..)
    have:=asc_len l (x+1) h2 (fun y hy=>⟨by have:=h1 y hy;omega,(hb y (List.mem_cons_of_mem _ hy)).2⟩)
    simp only [List.length_cons]
    omega
theorem app_lt {p:ByteArray} {x y:Int} (hx:0≤x∧x≤25) (hy:0≤y∧y≤25) (h:lw (p ++ letterW x)<lw (p ++ letterW y)):x<y:=by
  rw [lw_app,lw_app] at h
  have h2:=(lt_drop (lw p).length (lw p ++ lw (letterW x)) (lw p ++ lw (letterW y)) (by simp)).1 h
  simp only [List.drop_left',lw_letterW _ hx.1 hx.2,lw_letterW _ hy.1 hy.2] at h2
  rw [List.cons_lt_cons_iff] at h2
  rcases h2 with h2|⟨_,h2⟩
  · have e:=UInt8.lt_iff_toNat_lt.1 h2
    have hz:UInt8.size=256:=rfl
    rw [UInt8.toNat_ofNat_of_lt' (by omega),UInt8.toNat_ofNat_of_lt' (by omega)] at e
    omega
  · exact absurd h2 (List.not_lt_nil _)
theorem kidsW_26 {ws:List ByteArray} (ho:∀ w ∈ ws,okWord w) (a:Nat):(kidsW (trieW ws) (a:Int)).length≤26:=by
  have hm:∀ x ∈ kidsW (trieW ws) (a:Int),0≤(rT (trieW ws) x).f0∧(rT (trieW ws) x).f0≤25:=fun x hx=>by
    obtain ⟨i,c,rfl,_,_,c0,c1,e,_⟩:=kidsW_mem ho hx
    rw [e];exact ⟨c0,c1⟩
  have hp:((kidsW (trieW ws) (a:Int)).map fun x=>(rT (trieW ws) x).f0).Pairwise (·<·):=by
    rw [List.pairwise_map]
    have h0:(kidsW (trieW ws) (a:Int)).Pairwise (·<·):=kidsF_asc List.pairwise_lt_range'
    refine (List.Pairwise.and_mem.1 h0).imp (fun {x y} h=>?_)
    obtain ⟨hx,hy,hlt⟩:=h
    obtain ⟨i,c,rfl,_,hi,c0,c1,e,ep⟩:=kidsW_mem ho hx
    obtain ⟨j,d,rfl,_,hj,d0,d1,e2,ep2⟩:=kidsW_mem ho hy
    have hs:=ss_at (prefW_ss ws) (show i<j by omega) hj
    rw [ep,ep2] at hs
    rw [e,e2]
    exact app_lt ⟨c0,c1⟩ ⟨d0,d1⟩ hs
  have:=asc_len _ 0 hp (fun x hx=>by
    obtain ⟨y,hy,rfl⟩:=List.mem_map.1 hx
    exact hm y hy)
  rw [List.length_map] at this
  omega
theorem textX_size {ws:List ByteArray} (ho:∀ w ∈ ws,okWord w):∀ (n a:Nat),(textX (trieW ws) n (a:Int)).size≤bndX n:=by
  intro n
  induction n with
  | zero=>intro a;exact Nat.zero_le _
  | succ n ih =>
    intro a
    have hh:=headX_size (trieW ws) (a:Int)
    have hk:=kidsW_26 ho a
    have e1:(⟨#[40]⟩:ByteArray).size=1:=rfl
    have e2:(⟨#[41]⟩:ByteArray).size=1:=rfl
    simp only [textX,bndX]
    split
    · omega
    · rw [size_app]
      have hf:=fold_size (textX (trieW ws) n) (bndX n) (kidsW (trieW ws) (a:Int)) (headX (trieW ws) (a:Int) ++ ⟨#[40]⟩) (fun x hx=>by
        obtain ⟨i,_,rfl,_⟩:=kidsW_mem ho hx
        exact ih i)
      rw [size_app] at hf
      have hm:=Nat.mul_le_mul_right (bndX n) hk
      omega
theorem bndX_mono {m n:Nat} (h:m≤n):bndX m≤bndX n:=by
  induction h with
  | refl=>exact Nat.le_refl _
  | step _ ih=>simp only [bndX];omega
theorem bndX_13:bndX 13≤400000000000000000:=by decide
theorem rdI (ks:List Int) {i:Nat} (h:i<ks.length):rd ks (i:Int)=ks[i]:=by simp [rd,h]
theorem specText_l0 (l:List IN) (ks:List Int) (T:Int→ByteArray) (B:Nat) (hT:∀ x ∈ ks,Ev (fun k=>spec_l2Text.f k l x) (T x)) (hB:∀ x ∈ ks,(T x).size≤B) (hl:ks.length≤1048576):∀ (n i:Nat) (s:ByteArray),i+n=ks.length→s.size+n * B+1≤9223372036854775807 →
    Ev (fun k=>spec_l2Text.l0 k s ks (i:Int) l) ((ks.drop i).foldl (fun s x=>s ++ T x) s ++ ⟨#[41]⟩):=by
  intro n
  induction n with
  | zero =>
    intro i s h hs
    refine Ev.succ ?_
    simp only [spec_l2Text.l0]
    rw [List.drop_of_length_le (by omega),List.foldl_nil]
    exact Ev.neg (by omega) (Ev.pos (by omega) (Ev.pure _))
  | succ n ih =>
    intro i s h hs
    refine Ev.succ ?_
    simp only [spec_l2Text.l0]
    have hi:i<ks.length:=by omega
    have hm:=List.getElem_mem hi
    have hb:=hB _ hm
    rw [Nat.succ_mul] at hs
    rw [List.drop_eq_getElem_cons hi,List.foldl_cons,rdI ks hi,wnext i (by omega)]
    refine Ev.pos (by omega) (Ev.pos (by omega) (Ev.bind (hT _ hm) (Ev.pos (by omega) (ih (i+1) _ (by omega) ?_))))
    rw [size_app];omega
theorem implText_l0 (l:List IN) (ks:List Int) (T:Int→ByteArray) (B:Nat) (hT:∀ x ∈ ks,Ev (fun k=>impl_Trie_text.f k l x) (T x)) (hB:∀ x ∈ ks,(T x).size≤B) (hl:ks.length≤1048576):∀ (n i:Nat) (s:ByteArray),i+n=ks.length→s.size+n * B+1≤9223372036854775807 →
    Ev (fun k=>impl_Trie_text.l0 k s ks (ks.length:Int) (i:Int) l) ((ks.drop i).foldl (fun s x=>s ++ T x) s ++ ⟨#[41]⟩):=by
  intro n
  induction n with
  | zero =>
    intro i s h hs
    refine Ev.succ ?_
    simp only [impl_Trie_text.l0]
    rw [List.drop_of_length_le (by omega),List.foldl_nil]
    exact Ev.neg (by omega) (Ev.pos (by omega) (Ev.pure _))
  | succ n ih =>
    intro i s h hs
    refine Ev.succ ?_
    simp only [impl_Trie_text.l0]
    have hi:i<ks.length:=by omega
    have hm:=List.getElem_mem hi
    have hb:=hB _ hm
    rw [Nat.succ_mul] at hs
    rw [List.drop_eq_getElem_cons hi,List.foldl_cons,rdI ks hi,wnext i (by omega)]
    refine Ev.pos (by omega) (Ev.pos (by omega) (Ev.pos (by omega) (Ev.bind (hT _ hm) (Ev.pos (by omega) (ih (i+1) _ (by omega) ?_)))))
    rw [size_app];omega
theorem specText_ev {ws:List ByteArray} (hv:VW ws):∀ (n a:Nat),n≤13→a<(prefW ws).length→13≤(rdOf ByteArray.empty (prefW ws) (a:Int)).size+n→Ev (fun k=>spec_l2Text.f k (trieW ws) (a:Int)) (textX (trieW ws) n (a:Int)):=by
  have hn:=trie_le hv
  have hn2:=trieW_length ws
  intro n
  induction n with
  | zero =>
    intro a _ ha h
    have hm:rdOf ByteArray.empty (prefW ws) (a:Int) ∈ prefW ws:=at_mem (by omega) (by omega)
    have:=(prefW_ok hv.ok hm).1
    omega
  | succ n ih =>
    intro a hn13 ha h
    have hb:=bndX_13
    have hbn:=bndX_mono (show n+1≤13 by omega)
    simp only [bndX] at hbn
    have hbase:=baseX_size (trieW ws) (a:Int)
    have hhead:=headX_size (trieW ws) (a:Int)
    have hk26:=kidsW_26 hv.ok a
    have e46:(⟨#[46]⟩:ByteArray).size=1:=rfl
    have e40:(⟨#[40]⟩:ByteArray).size=1:=rfl
    refine Ev.succ ?_
    simp only [spec_l2Text.f]
    refine Ev.bind (specKids hv a ha) ?_
    have key:Ev (fun k=>spec_l2Text.j0 k (a:Int) (baseX (trieW ws) (a:Int)) (kidsW (trieW ws) (a:Int)) (trieW ws)) (textX (trieW ws) (n+1) (a:Int)):=by
      refine Ev.succ ?_
      simp only [spec_l2Text.j0]
      have key2:Ev (fun k=>spec_l2Text.j1 k (headX (trieW ws) (a:Int)) (kidsW (trieW ws) (a:Int)) (trieW ws)) (textX (trieW ws) (n+1) (a:Int)):=by
        refine Ev.succ ?_
        simp only [spec_l2Text.j1,textX]
        by_cases e:(kidsW (trieW ws) (a:Int)).length=0
        · rw [if_pos e];exact Ev.pos (by omega) (Ev.pure _)
        · rw [if_neg e]
          have hmul:=Nat.mul_le_mul_right (bndX n) hk26
          refine Ev.neg (by omega) (Ev.pos (by omega) ?_)
          have:=specText_l0 (trieW ws) (kidsW (trieW ws) (a:Int)) (textX (trieW ws) n) (bndX n) (fun x hx=>?_) (fun x hx=>?_) (by omega) _ 0 (headX (trieW ws) (a:Int) ++ ⟨#[40]⟩) (Nat.zero_add _) (by rw [size_app];omega)
          · exact this
          · obtain ⟨i,c,rfl,_,hi,_,_,_,ep⟩:=kidsW_mem hv.ok hx
            refine ih i (by omega) hi ?_
            rw [ep,size_app,letterW_size];omega
          · obtain ⟨i,c,rfl,_⟩:=kidsW_mem hv.ok hx
            exact textX_size hv.ok n i
      refine Ev.pos (by omega) (Ev.pos (by omega) ?_)
      by_cases e:(rT (trieW ws) (a:Int)).f2=true
      · refine Ev.pos e (Ev.pos (by omega) ?_)
        unfold headX at key2
        rwa [if_pos e] at key2
      · refine Ev.neg e ?_
        unfold headX at key2
        rwa [if_neg e] at key2
    by_cases h0:(a:Int) > 0
    · refine Ev.pos h0 (Ev.pos (by omega) (Ev.pos (by omega) ?_))
      unfold baseX at key
      rwa [if_pos h0] at key
    · refine Ev.neg h0 ?_
      unfold baseX at key
      rwa [if_neg h0] at key
theorem implText_ev {ws:List ByteArray} (hv:VW ws):∀ (n a:Nat),n≤13→a<(prefW ws).length→13≤(rdOf ByteArray.empty (prefW ws) (a:Int)).size+n→Ev (fun k=>impl_Trie_text.f k (trieW ws) (a:Int)) (textX (trieW ws) n (a:Int)):=by
  have hn:=trie_le hv
  have hn2:=trieW_length ws
  intro n
  induction n with
  | zero =>
    intro a _ ha h
    have hm:rdOf ByteArray.empty (prefW ws) (a:Int) ∈ prefW ws:=at_mem (by omega) (by omega)
    have:=(prefW_ok hv.ok hm).1
    omega
  | succ n ih =>
    intro a hn13 ha h
    have hb:=bndX_13
    have hbn:=bndX_mono (show n+1≤13 by omega)
    simp only [bndX] at hbn
    have hbase:=baseX_size (trieW ws) (a:Int)
    have hhead:=headX_size (trieW ws) (a:Int)
    have hk26:=kidsW_26 hv.ok a
    have e46:(⟨#[46]⟩:ByteArray).size=1:=rfl
    have e40:(⟨#[40]⟩:ByteArray).size=1:=rfl
    refine Ev.succ ?_
    simp only [impl_Trie_text.f]
    have key:Ev (fun k=>impl_Trie_text.j0 k (a:Int) (baseX (trieW ws) (a:Int)) (trieW ws)) (textX (trieW ws) (n+1) (a:Int)):=by
      refine Ev.succ ?_
      simp only [impl_Trie_text.j0]
      have key2:Ev (fun k=>impl_Trie_text.j1 k (a:Int) (headX (trieW ws) (a:Int)) (trieW ws)) (textX (trieW ws) (n+1) (a:Int)):=by
        refine Ev.succ ?_
        simp only [impl_Trie_text.j1,textX]
        refine Ev.bind (implKids (trieW ws) (a:Int) (by omega)) ?_
        by_cases e:(kidsW (trieW ws) (a:Int)).length=0
        · rw [if_pos e];exact Ev.pos (by omega) (Ev.pure _)
        · rw [if_neg e]
          have hmul:=Nat.mul_le_mul_right (bndX n) hk26
          refine Ev.neg (by omega) (Ev.pos (by omega) ?_)
          have:=implText_l0 (trieW ws) (kidsW (trieW ws) (a:Int)) (textX (trieW ws) n) (bndX n) (fun x hx=>?_) (fun x hx=>?_) (by omega) _ 0 (headX (trieW ws) (a:Int) ++ ⟨#[40]⟩) (Nat.zero_add _) (by rw [size_app];omega)
          · exact this
          · obtain ⟨i,c,rfl,_,hi,_,_,_,ep⟩:=kidsW_mem hv.ok hx
            refine ih i (by omega) hi ?_
            rw [ep,size_app,letterW_size];omega
          · obtain ⟨i,c,rfl,_⟩:=kidsW_mem hv.ok hx
            exact textX_size hv.ok n i
      refine Ev.pos (by omega) (Ev.pos (by omega) ?_)
      by_cases e:(rT (trieW ws) (a:Int)).f2=true
      · refine Ev.pos e (Ev.pos (by omega) ?_)
        unfold headX at key2
        rwa [if_pos e] at key2
      · refine Ev.neg e ?_
        unfold headX at key2
        rwa [if_neg e] at key2
    by_cases h0:(a:Int) > 0
    · refine Ev.pos h0 (Ev.pos (by omega) (Ev.pos (by omega) (Ev.bindc (t:=letterW (rT (trieW ws) (a:Int)).f0) rfl ?_)))
      unfold baseX at key
      rwa [if_pos h0] at key
    · refine Ev.neg h0 ?_
      unfold baseX at key
      rwa [if_neg h0] at key
end Go.Proofs.Ytghkbgmbbcaecaa.Q
namespace Go.Proofs.Ytghkbgmbbcaecaa.Q
open Go.RowKit Go.Proofs.YtghkbgmbbcaecaaW.PrintWords Go.Proofs.YtghkbgmbbcaecaaW.PrintLast
set_option linter.unusedVariables false
theorem bt_lwP (a:ByteArray) (i:Nat) (h:i<a.size):bt a (i:Int)=((a.data[i]'h).toNat:Int):=by
  unfold bt
  simp only [Int.toNat_natCast]
  first|rfl|(simp [h];rfl)
theorem ext_one (a:ByteArray) (i:Nat) (h:i<a.size):a.extract i (i+1)=⟨#[a.data[i]'h]⟩:=by
  apply ByteArray.ext
  rw [ByteArray.data_extract]
  have h2:i<a.data.size:=h
  apply Array.ext
  · simp;omega
  · intro j h3 h4
    have:j=0:=by simp at h4;omega
    subst this
    simp
theorem tl_nil (a:ByteArray):a.toList=([]:List UInt8) ↔ a.size=0:=by
  rw [ByteArray.toList_eq]
  unfold ByteArray.size
  rw [Array.toList_eq_nil_iff,Array.size_eq_zero_iff]
def specP:List UInt8→List ByteArray→ByteArray→ByteArray→List ByteArray
  | [],ws,_,_=>ws
  | c :: r,ws,p,l=>if c=46 then specP r (ws ++ [p ++ l]) p l else if c=40 then specP r ws (p ++ l) ⟨#[]⟩ else if c=41 then (if p.size=0 then specP r ws p ⟨#[]⟩ else specP r ws (p.extract 0 (p.size - 1)) (p.extract (p.size - 1) p.size)) else specP r ws p ⟨#[c]⟩
def endS (s:ByteArray) (ws:List ByteArray) (k:Nat):Option (List IN × Bool):=(spec_l2Set.f k ws).bind fun b=>if b.2=true then ((spec_l2Of.f k b.1).bind fun t=>((spec_l2Text.f k t 0).bind fun u=>if u.toList=s.toList then some (t,true) else some ([],false))) else some ([],false)
theorem specP_ev (s:ByteArray) (hs:s.size≤1443) (r:List IN × Bool):∀ (n i:Nat) (ws:List ByteArray) (p l:ByteArray),i+n=s.size→ws.length≤i→p.size≤i→l.size≤1→Ev (fun k=>endS s (specP (s.data.toList.drop i) ws p l) k) r→Ev (fun k=>spec_l2Parse.l0 k s ws p l (i:Int)) r:=by
  intro n
  induction n with
  | zero =>
    intro i ws p l hi _ _ _ h
    rw [List.drop_of_length_le (by rw [Array.length_toList];show s.size≤i;omega)] at h
    refine Ev.succ ?_
    simp only [spec_l2Parse.l0]
    exact Ev.neg (by omega) h
  | succ n ih =>
    intro i ws p l hi hw hp hl h
    have hlt:i<s.size:=by omega
    have hlt2:i<s.data.toList.length:=by rw [Array.length_toList];exact hlt
    rw [List.drop_eq_getElem_cons hlt2,Array.getElem_toList] at h
    have ew:wrap64 ((i:Int)+1)=((i+1:Nat):Int):=by unfold wrap64;omega
    have hb:=bt_lwP s i hlt
    have hpl:(p ++ l).size=p.size+l.size:=by rw [ByteArray.size_append]
    refine Ev.succ ?_
    simp only [spec_l2Parse.l0,hb,ew]
    generalize hc:s.data[i]'hlt=c at h
    have hcn:=c.toNat_lt
    refine Ev.pos (by omega) (Ev.pos (by omega) ?_)
    rw [specP] at h
    by_cases h1:c=46
    · rw [if_pos h1] at h
      exact Ev.pos (by rw [h1];rfl) (Ev.pos (by omega) (Ev.pos (by omega) (ih (i+1) _ _ _ (by omega) (by simp;omega) (by omega) hl h)))
    · rw [if_neg h1] at h
      refine Ev.neg (fun e=>h1 (UInt8.toNat_inj.1 (by show c.toNat=46;omega))) ?_
      by_cases h2:c=40
      · rw [if_pos h2] at h
        exact Ev.pos (by rw [h2];rfl) (Ev.pos (by omega) (ih (i+1) _ _ _ (by omega) (by omega) (by omega) (by decide) h))
      · rw [if_neg h2] at h
        refine Ev.neg (fun e=>h2 (UInt8.toNat_inj.1 (by show c.toNat=40;omega))) ?_
        by_cases h3:c=41
        · rw [if_pos h3] at h
          refine Ev.pos (by rw [h3];rfl) ?_
          by_cases h4:p.size=0
          · rw [if_pos h4] at h
            exact Ev.pos ((tl_nil p).2 h4) (ih (i+1) _ _ _ (by omega) (by omega) (by omega) (by decide) h)
          · rw [if_neg h4] at h
            have ew2:wrap64 ((p.size:Int) - 1)=((p.size - 1:Nat):Int):=by unfold wrap64;omega
            have z1:(p.extract 0 (p.size - 1)).size=p.size - 1:=by rw [ByteArray.size_extract];omega
            have z2:(p.extract (p.size - 1) p.size).size=1:=by rw [ByteArray.size_extract];omega
            refine Ev.neg (fun e=>h4 ((tl_nil p).1 e)) ?_
            rw [ew2]
            simp only [Int.toNat_natCast]
            exact Ev.pos (by omega) (Ev.pos (by omega) (ih (i+1) _ _ _ (by omega) (by omega) (by omega) (by omega) h))
        · rw [if_neg h3] at h
          refine Ev.neg (fun e=>h3 (UInt8.toNat_inj.1 (by show c.toNat=41;omega))) ?_
          simp only [Int.toNat_natCast]
          rw [ext_one s i hlt,hc]
          exact Ev.pos (by omega) (Ev.pos (by omega) (ih (i+1) _ _ _ (by omega) (by omega) (by omega) (Nat.le_refl 1) h))
def limP (way:List Int) (w:ByteArray) (ws:List ByteArray):Option (List Int × ByteArray × List ByteArray):=if w.size > 12∨ws.length > 40∨way.length > 12 then none else some (way,w,ws)
def topP (way:List Int):Int:=rd way ((way.length - 1:Nat):Int)
def stepP (c:UInt8) (way:List Int) (w:ByteArray) (ws:List ByteArray):Option (List Int × ByteArray × List ByteArray) :=
  if c=46 then limP way w (ws ++ [w]) else if c=40 then limP (way ++ [(w.size:Int)]) w ws
  else if c=41 then (if way.length=0 then none else limP (way.take (way.length - 1)) (w.extract 0 (topP way).toNat) ws)
  else if 97≤c.toNat∧c.toNat≤122∧way.length ≠ 0 then limP way (w.extract 0 (topP way).toNat ++ ⟨#[c]⟩) ws else none
def implP:List UInt8→List Int→ByteArray→List ByteArray→Option (List ByteArray)
  | [],_,_,ws=>some ws
  | c :: r,way,w,ws=>match stepP c way w ws with
    | none=>none
    | some x=>implP r x.1 x.2.1 x.2.2
def endI (s:ByteArray) (o:Option (List ByteArray)) (k:Nat):Option (List IN × Bool):=match o with
  | none=>some ([],false)
  | some ws=>(impl_ofWords.f ws).bind fun b=>if b.2=true then ((impl_Trie_text.f k b.1 0).bind fun u=>if u.toList=s.toList then some (b.1,true) else some ([],false)) else some ([],false)
structure WayOk (way:List Int) (w:ByteArray) (ws:List ByteArray):Prop where
  asc:way.Pairwise (·≤·)
  low:∀ x ∈ way,0≤x
  top:∀ x ∈ way,x≤(w.size:Int)
  w12:w.size≤12
  ws40:ws.length≤40
  way12:way.length≤12
theorem topP_mem {way:List Int} (h:way.length ≠ 0):topP way ∈ way:=by
  have hl:way.length - 1<way.length:=by omega
  have e:topP way=way[way.length - 1]:=by unfold topP;simp [rd,hl]
  rw [e]
  exact List.getElem_mem hl
theorem take_top {way:List Int} (ha:way.Pairwise (·≤·)) (h:way.length ≠ 0):∀ x ∈ way.take (way.length - 1),x≤topP way:=by
  intro x hx
  have hl:way.length - 1<way.length:=by omega
  have e:topP way=way[way.length - 1]:=by unfold topP;simp [rd,hl]
  have e2:way=way.take (way.length - 1) ++ [way[way.length - 1]]:=by
    rw [List.take_append_getElem hl,show way.length - 1+1=way.length by omega,List.take_length]
  rw [e2,List.pairwise_append] at ha
  rw [e]
  exact ha.2.2 x hx _ (List.mem_singleton.2 rfl)
theorem limP_ev {r:List IN × Bool} {way:List Int} {w:ByteArray} {ws:List ByteArray} {F:Nat→Option (List IN × Bool)} (h:Ev (match limP way w ws with
    | none=>fun _=>some ([],false)
    | some _=>F) r):Ev (fun k=>if (w.size:Int) > 12 then some ([],false) else if (ws.length:Int) > 40 then some ([],false) else if (way.length:Int) > 12 then some ([],false) else F k) r:=by
  unfold limP at h
  by_cases h1:w.size > 12
  · rw [if_pos (.inl h1)] at h
    exact Ev.pos (by omega) h
  · refine Ev.neg (by omega) ?_
    by_cases h2:ws.length > 40
    · rw [if_pos (.inr (.inl h2))] at h
      exact Ev.pos (by omega) h
    · refine Ev.neg (by omega) ?_
      by_cases h3:way.length > 12
      · rw [if_pos (.inr (.inr h3))] at h
        exact Ev.pos (by omega) h
      · rw [if_neg (by omega)] at h
        exact Ev.neg (by omega) h
theorem implP_ev (s:ByteArray) (hs:s.size≤1048576) (r:List IN × Bool):∀ (n i:Nat) (way:List Int) (w:ByteArray) (ws:List ByteArray),i+n=s.size→WayOk way w ws→Ev (endI s (implP (s.data.toList.drop i) way w ws)) r→Ev (fun k=>impl_ParseTrie.l0 k s way w ws (s.size:Int) (i:Int)) r:=by
  intro n
  induction n with
  | zero =>
    intro i way w ws hi hW h
    rw [List.drop_of_length_le (by rw [Array.length_toList];show s.size≤i;omega)] at h
    refine Ev.succ ?_
    simp only [impl_ParseTrie.l0]
    exact Ev.neg (by omega) h
  | succ n ih =>
    intro i way w ws hi hW h
    have hlt:i<s.size:=by omega
    have hlt2:i<s.data.toList.length:=by rw [Array.length_toList];exact hlt
    rw [List.drop_eq_getElem_cons hlt2,Array.getElem_toList] at h
    have ew:wrap64 ((i:Int)+1)=((i+1:Nat):Int):=by unfold wrap64;omega
    have hb:=bt_lwP s i hlt
    have fin:∀ (way':List Int) (w':ByteArray) (ws':List ByteArray),way'.Pairwise (·≤·)→(∀ x ∈ way',0≤x)→(∀ x ∈ way',x≤(w'.size:Int))→Ev (endI s (match limP way' w' ws' with
        | none=>none
        | some x=>implP (s.data.toList.drop (i+1)) x.1 x.2.1 x.2.2)) r→Ev (fun k=>if (w'.size:Int) > 12 then some ([],false) else if (ws'.length:Int) > 40 then some ([],false) else if (way'.length:Int) > 12 then some ([],false) else impl_ParseTrie.l0 k s way' w' ws' (s.size:Int) ((i+1:Nat):Int)) r:=by
      intro way' w' ws' ha hlo hto h
      refine limP_ev ?_
      unfold limP at h ⊢
      by_cases hh:w'.size > 12∨ws'.length > 40∨way'.length > 12
      · rw [if_pos hh] at h ⊢
        exact h
      · rw [if_neg hh] at h ⊢
        exact ih (i+1) way' w' ws' (by omega) ⟨ha,hlo,hto,by omega,by omega,by omega⟩ h
    have h40:=hW.ws40
    have h12:=hW.way12
    have hw12:=hW.w12
    refine Ev.succ ?_
    simp only [impl_ParseTrie.l0,hb,ew,Option.bind_some]
    generalize hc:s.data[i]'hlt=c at h
    have hcn:=c.toNat_lt
    refine Ev.pos (by omega) (Ev.pos (by omega) (Ev.pos (by omega) ?_))
    rw [implP] at h
    by_cases h1:c=46
    · have hst:stepP c way w ws=limP way w (ws ++ [w]):=by unfold stepP;rw [if_pos h1]
      rw [hst] at h
      exact Ev.pos (by rw [h1];rfl) (Ev.pos (by omega) (fin way w (ws ++ [w]) hW.asc hW.low hW.top h))
    · refine Ev.neg (fun e=>h1 (UInt8.toNat_inj.1 (by show c.toNat=46;omega))) ?_
      by_cases h2:c=40
      · have hst:stepP c way w ws=limP (way ++ [(w.size:Int)]) w ws:=by unfold stepP;rw [if_neg h1,if_pos h2]
        rw [hst] at h
        refine Ev.pos (by rw [h2];rfl) (Ev.pos (by omega) (fin (way ++ [(w.size:Int)]) w ws ?_ ?_ ?_ h))
        · rw [List.pairwise_append]
          exact ⟨hW.asc,List.pairwise_singleton _ _,fun x hx y hy=>by rw [List.mem_singleton.1 hy];exact hW.top x hx⟩
        · intro x hx
          rcases List.mem_append.1 hx with hx|hx
          · exact hW.low x hx
          · rw [List.mem_singleton.1 hx];omega
        · intro x hx
          rcases List.mem_append.1 hx with hx|hx
          · exact hW.top x hx
          · rw [List.mem_singleton.1 hx];exact Int.le_refl _
      · refine Ev.neg (fun e=>h2 (UInt8.toNat_inj.1 (by show c.toNat=40;omega))) ?_
        by_cases h0:way.length=0
        · have hst:stepP c way w ws=none:=by
            unfold stepP
            rw [if_neg h1,if_neg h2]
            by_cases h3:c=41
            · rw [if_pos h3,if_pos h0]
            · rw [if_neg h3,if_neg (fun q=>q.2.2 h0)]
          rw [hst] at h
          have hd:decide ((way.length:Int) > 0)=false:=decide_eq_false (by omega)
          have j2:Ev (fun k=>impl_ParseTrie.j2 k s way w ws (i:Int) (s.size:Int) (i:Int) false) r:=by
            refine Ev.succ ?_
            simp only [impl_ParseTrie.j2]
            exact Ev.neg (by decide) h
          have j1:Ev (fun k=>impl_ParseTrie.j1 k s way w ws (i:Int) (c.toNat:Int) (s.size:Int) (i:Int) false) r:=by
            refine Ev.succ ?_
            simp only [impl_ParseTrie.j1,hd]
            refine Ev.neg (by decide) ?_
            by_cases q1:(c.toNat:Int) ≥ 97
            · refine Ev.pos q1 ?_
              by_cases q2:(c.toNat:Int)≤122
              · exact Ev.pos q2 j2
              · exact Ev.neg q2 j2
            · exact Ev.neg q1 j2
          rw [hd]
          by_cases h3:c=41
          · exact Ev.pos (by rw [h3];rfl) j1
          · exact Ev.neg (fun e=>h3 (UInt8.toNat_inj.1 (by show c.toNat=41;omega))) j1
        · have hd:decide ((way.length:Int) > 0)=true:=decide_eq_true (by omega)
          have ewl:wrap64 ((way.length:Int) - 1)=((way.length - 1:Nat):Int):=by unfold wrap64;omega
          have htm:=topP_mem h0
          have ht0:=hW.low _ htm
          have ht1:=hW.top _ htm
          have htp:rd way ((way.length - 1:Nat):Int)=topP way:=rfl
          have zx:(w.extract 0 (topP way).toNat).size=(topP way).toNat:=by rw [ByteArray.size_extract];omega
          rw [hd]
          by_cases h3:c=41
          · have hst:stepP c way w ws=limP (way.take (way.length - 1)) (w.extract 0 (topP way).toNat) ws:=by unfold stepP;rw [if_neg h1,if_neg h2,if_pos h3,if_neg h0]
            rw [hst] at h
            refine Ev.pos (by rw [h3];rfl) (Ev.succ ?_)
            simp only [impl_ParseTrie.j1,ewl,htp,Option.bind_some,Int.toNat_natCast,ew]
            refine Ev.pos trivial (Ev.pos (by omega) (Ev.pos (by omega) (Ev.pos (by omega) (Ev.pos (by omega) (Ev.pos (by omega) ?_)))))
            exact fin _ _ ws (hW.asc.sublist (List.take_sublist _ _)) (fun x hx=>hW.low x (List.mem_of_mem_take hx)) (fun x hx=>by have:=take_top hW.asc h0 x hx;rw [zx];omega) h
          · refine Ev.neg (fun e=>h3 (UInt8.toNat_inj.1 (by show c.toNat=41;omega))) (Ev.succ ?_)
            simp only [impl_ParseTrie.j1,hd]
            refine Ev.neg (by decide) ?_
            by_cases hl:97≤c.toNat∧c.toNat≤122
            · have hst:stepP c way w ws=limP way (w.extract 0 (topP way).toNat ++ ⟨#[c]⟩) ws:=by unfold stepP;rw [if_neg h1,if_neg h2,if_neg h3,if_pos ⟨hl.1,hl.2,h0⟩]
              rw [hst] at h
              refine Ev.pos (by omega) (Ev.pos (by omega) (Ev.succ ?_))
              simp only [impl_ParseTrie.j2,ewl,htp,Int.toNat_natCast,ew]
              rw [ext_one s i hlt,hc]
              have z1:(⟨#[c]⟩:ByteArray).size=1:=rfl
              refine Ev.pos trivial (Ev.pos (by omega) (Ev.pos (by omega) (Ev.pos (by omega) (Ev.pos (by omega) (Ev.pos (by omega) (Ev.pos (by omega) (Ev.pos (by omega) (Ev.pos (by omega) ?_))))))))
              refine fin way _ ws hW.asc hW.low (fun x hx=>?_) h
              rw [ByteArray.size_append,zx]
              have htop:x≤topP way:=by
                have hl2:way.length - 1<way.length:=by omega
                have e2:way=way.take (way.length - 1) ++ [way[way.length - 1]]:=by
                  rw [List.take_append_getElem hl2,show way.length - 1+1=way.length by omega,List.take_length]
                rw [e2] at hx
                rcases List.mem_append.1 hx with hx|hx
                · exact take_top hW.asc h0 x hx
                · rw [List.mem_singleton.1 hx]
                  have:topP way=way[way.length - 1]:=by unfold topP;simp [rd,hl2]
                  omega
              omega
            · have hst:stepP c way w ws=none:=by unfold stepP;rw [if_neg h1,if_neg h2,if_neg h3,if_neg (fun q=>hl ⟨q.1,q.2.1⟩)]
              rw [hst] at h
              have j2:Ev (fun k=>impl_ParseTrie.j2 k s way w ws (i:Int) (s.size:Int) (i:Int) false) r:=by
                refine Ev.succ ?_
                simp only [impl_ParseTrie.j2]
                exact Ev.neg (by decide) h
              by_cases q1:(c.toNat:Int) ≥ 97
              · exact Ev.pos q1 (Ev.neg (by omega) j2)
              · exact Ev.neg q1 j2
end Go.Proofs.Ytghkbgmbbcaecaa.Q
namespace Go.Proofs.Ytghkbgmbbcaecaa.Q
open Go.RowKit Go.Proofs.YtghkbgmbbcaecaaW.PrintWords Go.Proofs.YtghkbgmbbcaecaaW.PrintLast
set_option linter.unusedVariables false
def preX (ws:List ByteArray) (a:Int):ByteArray:=rdOf ByteArray.empty (prefW ws) a
def readX (ws:List ByteArray):Nat→Int→List ByteArray
  | 0,_=>[]
  | n+1,a=>(if (rT (trieW ws) a).f2=true then [preX ws a] else []) ++ (kidsW (trieW ws) a).flatMap (readX ws n)
theorem lw_foldX (T:Int→ByteArray):∀ (ks:List Int) (s:ByteArray),lw (ks.foldl (fun s x=>s ++ T x) s)=lw s ++ ks.flatMap (fun x=>lw (T x))
  | [],s=>by simp
  | x :: ks,s=>by rw [List.foldl_cons,lw_foldX T ks,lw_app,List.flatMap_cons,List.append_assoc]
theorem letter_lit {c:Int} (c0:0≤c) (c1:c≤25):letterW c=⟨#[UInt8.ofNat (97+c.toNat)]⟩:=by
  apply lw_inj
  rw [lw_letterW c c0 c1]
  rfl
theorem letter_toNat {c:Int} (c0:0≤c) (c1:c≤25):(UInt8.ofNat (97+c.toNat)).toNat=97+c.toNat:=UInt8.toNat_ofNat_of_lt' (by have:UInt8.size=256:=rfl;omega)
theorem lw_head {ws:List ByteArray} {i:Nat} (hi:0<i) {c:Int} (c0:0≤c) (c1:c≤25) (hc:(rT (trieW ws) (i:Int)).f0=c):lw (headX (trieW ws) (i:Int))=UInt8.ofNat (97+c.toNat) :: (if (rT (trieW ws) (i:Int)).f2=true then [46] else []):=by
  have hb:baseX (trieW ws) (i:Int)=letterW c:=by unfold baseX;rw [if_pos (by omega),hc]
  unfold headX
  split
  · rw [lw_app,hb,lw_letterW c c0 c1];rfl
  · rw [hb,lw_letterW c c0 c1]
theorem lw_text (l:List IN) (n:Nat) (a:Int):lw (textX l (n+1) a)=lw (headX l a) ++ (if (kidsW l a).length=0 then [] else 40 :: ((kidsW l a).flatMap (fun x=>lw (textX l n x)) ++ [41])):=by
  simp only [textX]
  split
  · simp
  · rw [lw_app,lw_foldX,lw_app]
    show (lw (headX l a) ++ [40] ++ _) ++ [41]=_
    simp
theorem ext_app {p:ByteArray} {c:Int}:(p ++ letterW c).size=p.size+1∧(p ++ letterW c).extract 0 ((p ++ letterW c).size - 1)=p∧(p ++ letterW c).extract ((p ++ letterW c).size - 1) (p ++ letterW c).size=letterW c:=by
  have hz:(p ++ letterW c).size=p.size+1:=by rw [ByteArray.size_append,letterW_size]
  have hl:(lw p).length=p.size:=by unfold lw;rw [Array.length_toList];rfl
  have h1:(lw (letterW c)).length=1:=by unfold lw;rw [Array.length_toList];exact letterW_size c
  refine ⟨hz,lw_inj ?_,lw_inj ?_⟩
  · unfold lw
    rw [ByteArray.data_extract,Array.toList_extract]
    show List.extract (lw (p ++ letterW c)) 0 ((p ++ letterW c).size - 1)=lw p
    rw [hz,lw_app,List.extract_eq_take_drop]
    simp [hl]
  · unfold lw
    rw [ByteArray.data_extract,Array.toList_extract]
    show List.extract (lw (p ++ letterW c)) ((p ++ letterW c).size - 1) (p ++ letterW c).size=lw (letterW c)
    rw [hz,lw_app,List.extract_eq_take_drop]
    simp [hl]
    exact List.take_of_length_le (by omega)
theorem specP_node {ws:List ByteArray} (hv:VW ws):∀ (n i b:Nat) (c:Int),0<i→i<(prefW ws).length→0≤c→c≤25→(rT (trieW ws) (i:Int)).f0=c→preX ws (i:Int)=preX ws (b:Int) ++ letterW c→13≤(preX ws (i:Int)).size+n →
    ∀ (W:List ByteArray) (l:ByteArray) (rest:List UInt8),specP (lw (textX (trieW ws) n (i:Int)) ++ rest) W (preX ws (b:Int)) l=specP rest (W ++ readX ws n (i:Int)) (preX ws (b:Int)) (letterW c):=by
  intro n
  induction n with
  | zero =>
    intro i b c _ hi _ _ _ _ h
    have hm:preX ws (i:Int) ∈ prefW ws:=at_mem (by omega) (by omega)
    have:=(prefW_ok hv.ok hm).1
    omega
  | succ n ih =>
    intro i b c h0 hi c0 c1 hc hp hn W l rest
    have ht:=letter_toNat c0 c1
    have hL46:UInt8.ofNat (97+c.toNat) ≠ 46:=fun e=>by have:=congrArg UInt8.toNat e;rw [ht] at this;have h2:(46:UInt8).toNat=46:=rfl;omega
    have hL40:UInt8.ofNat (97+c.toNat) ≠ 40:=fun e=>by have:=congrArg UInt8.toNat e;rw [ht] at this;have h2:(40:UInt8).toNat=40:=rfl;omega
    have hL41:UInt8.ofNat (97+c.toNat) ≠ 41:=fun e=>by have:=congrArg UInt8.toNat e;rw [ht] at this;have h2:(41:UInt8).toNat=41:=rfl;omega
    -- the kids
    have kids:∀ (ks:List Int),(∀ x ∈ ks,x ∈ kidsW (trieW ws) (i:Int))→∀ (W:List ByteArray) (l:ByteArray) (rest:List UInt8),∃ l',specP (ks.flatMap (fun x=>lw (textX (trieW ws) n x)) ++ rest) W (preX ws (i:Int)) l=specP rest (W ++ ks.flatMap (readX ws n)) (preX ws (i:Int)) l':=by
      intro ks
      induction ks with
      | nil=>intro _ W l rest;exact ⟨l,by simp⟩
      | cons x ks ih2 =>
        intro hk W l rest
        obtain ⟨j,d,rfl,hij,hj,d0,d1,e,ep⟩:=kidsW_mem hv.ok (hk x List.mem_cons_self)
        have h1:=ih j i d (by omega) hj d0 d1 e ep (by
          have:(preX ws (j:Int)).size=(preX ws (i:Int)).size+1:=by unfold preX;rw [ep,ByteArray.size_append,letterW_size]
          omega) W l (ks.flatMap (fun x=>lw (textX (trieW ws) n x)) ++ rest)
        obtain ⟨l',h2⟩:=ih2 (fun y hy=>hk y (List.mem_cons_of_mem _ hy)) (W ++ readX ws n (j:Int)) (letterW d) rest
        refine ⟨l',?_⟩
        rw [List.flatMap_cons,List.flatMap_cons,List.append_assoc,h1,h2,List.append_assoc]
    obtain ⟨z1,z2,z3⟩:=ext_app (p:=preX ws (b:Int)) (c:=c)
    rw [← hp] at z1 z2 z3
    have tail:∀ (W:List ByteArray),specP ((if (kidsW (trieW ws) (i:Int)).length=0 then [] else 40 :: ((kidsW (trieW ws) (i:Int)).flatMap (fun x=>lw (textX (trieW ws) n x)) ++ [41])) ++ rest) W (preX ws (b:Int)) (letterW c)=specP rest (W ++ (kidsW (trieW ws) (i:Int)).flatMap (readX ws n)) (preX ws (b:Int)) (letterW c):=by
      intro W
      by_cases hk:(kidsW (trieW ws) (i:Int)).length=0
      · rw [if_pos hk,List.eq_nil_of_length_eq_zero hk]
        simp
      · rw [if_neg hk,List.cons_append,List.append_assoc,specP,if_neg (by decide),if_pos rfl,← hp]
        obtain ⟨l',h2⟩:=kids _ (fun _ h=>h) W ⟨#[]⟩ ([41] ++ rest)
        rw [h2,List.singleton_append,specP,if_neg (by decide),if_neg (by decide),if_pos rfl,if_neg (by omega),z2,z3]
    rw [lw_text,lw_head h0 c0 c1 hc,List.append_assoc,List.cons_append,specP,if_neg hL46,if_neg hL40,if_neg hL41,← letter_lit c0 c1]
    simp only [readX]
    by_cases hf:(rT (trieW ws) (i:Int)).f2=true
    · rw [if_pos hf,if_pos hf,List.singleton_append,specP,if_pos rfl,← hp,tail,List.append_assoc]
    · rw [if_neg hf,if_neg hf,List.nil_append,tail,List.nil_append]
theorem limP_ok {way:List Int} {w:ByteArray} {W:List ByteArray} (h1:w.size≤12) (h2:W.length≤40) (h3:way.length≤12):limP way w W=some (way,w,W):=by unfold limP;rw [if_neg (by omega)]
theorem topP_app (way:List Int) (x:Int):topP (way ++ [x])=x:=by
  unfold topP
  simp [rd]
theorem implP_node {ws:List ByteArray} (hv:VW ws):∀ (n i b:Nat) (c:Int),0<i→i<(prefW ws).length→0≤c→c≤25→(rT (trieW ws) (i:Int)).f0=c→preX ws (i:Int)=preX ws (b:Int) ++ letterW c→13≤(preX ws (i:Int)).size+n →
    ∀ (way:List Int) (w:ByteArray) (W:List ByteArray) (rest:List UInt8),way.length=(preX ws (b:Int)).size+1→topP way=((preX ws (b:Int)).size:Int)→w.extract 0 (preX ws (b:Int)).size=preX ws (b:Int)→W.length+(readX ws n (i:Int)).length≤40 →
    implP (lw (textX (trieW ws) n (i:Int)) ++ rest) way w W=implP rest way (preX ws (i:Int)) (W ++ readX ws n (i:Int)):=by
  intro n
  induction n with
  | zero =>
    intro i b c _ hi _ _ _ _ h
    have hm:preX ws (i:Int) ∈ prefW ws:=at_mem (by omega) (by omega)
    have:=(prefW_ok hv.ok hm).1
    omega
  | succ n ih =>
    intro i b c h0 hi c0 c1 hc hp hn way w W rest hway htop hw hW
    have hm:preX ws (i:Int) ∈ prefW ws:=at_mem (by omega) (by omega)
    have h12:=(prefW_ok hv.ok hm).1
    have ht:=letter_toNat c0 c1
    have hL46:UInt8.ofNat (97+c.toNat) ≠ 46:=fun e=>by have:=congrArg UInt8.toNat e;rw [ht] at this;have h2:(46:UInt8).toNat=46:=rfl;omega
    have hL40:UInt8.ofNat (97+c.toNat) ≠ 40:=fun e=>by have:=congrArg UInt8.toNat e;rw [ht] at this;have h2:(40:UInt8).toNat=40:=rfl;omega
    have hL41:UInt8.ofNat (97+c.toNat) ≠ 41:=fun e=>by have:=congrArg UInt8.toNat e;rw [ht] at this;have h2:(41:UInt8).toNat=41:=rfl;omega
    obtain ⟨z1,z2,z3⟩:=ext_app (p:=preX ws (b:Int)) (c:=c)
    rw [← hp] at z1 z2 z3
    have kids:∀ (ks:List Int),(∀ x ∈ ks,x ∈ kidsW (trieW ws) (i:Int))→∀ (way:List Int) (w:ByteArray) (W:List ByteArray) (rest:List UInt8),way.length=(preX ws (i:Int)).size+1→topP way=((preX ws (i:Int)).size:Int)→w.extract 0 (preX ws (i:Int)).size=preX ws (i:Int)→W.length+(ks.flatMap (readX ws n)).length≤40 →
        ∃ w',w'.extract 0 (preX ws (i:Int)).size=preX ws (i:Int)∧implP (ks.flatMap (fun x=>lw (textX (trieW ws) n x)) ++ rest) way w W=implP rest way w' (W ++ ks.flatMap (readX ws n)):=by
      intro ks
      induction ks with
      | nil=>intro _ way w W rest _ _ hw _;exact ⟨w,hw,by simp⟩
      | cons x ks ih2 =>
        intro hk way w W rest h1 h2 h3 h4
        rw [List.flatMap_cons,List.length_append] at h4
        obtain ⟨j,d,rfl,hij,hj,d0,d1,e,ep⟩:=kidsW_mem hv.ok (hk x List.mem_cons_self)
        have hz:(preX ws (j:Int)).size=(preX ws (i:Int)).size+1:=by unfold preX;rw [ep,ByteArray.size_append,letterW_size]
        obtain ⟨y1,y2,y3⟩:=ext_app (p:=preX ws (i:Int)) (c:=d)
        have epx:preX ws (j:Int)=preX ws (i:Int) ++ letterW d:=ep
        rw [← epx] at y1 y2
        have k1:=ih j i d (by omega) hj d0 d1 e ep (by omega) way w W (ks.flatMap (fun x=>lw (textX (trieW ws) n x)) ++ rest) h1 h2 h3 (by omega)
        obtain ⟨w',k2,k3⟩:=ih2 (fun y hy=>hk y (List.mem_cons_of_mem _ hy)) way (preX ws (j:Int)) (W ++ readX ws n (j:Int)) rest h1 h2 (by rw [hz,Nat.add_sub_cancel] at y2;exact y2) (by rw [List.length_append];omega)
        refine ⟨w',k2,?_⟩
        rw [List.flatMap_cons,List.flatMap_cons,List.append_assoc,k1,k3,List.append_assoc]
    have tail:∀ (W:List ByteArray),W.length+((kidsW (trieW ws) (i:Int)).flatMap (readX ws n)).length≤40→implP ((if (kidsW (trieW ws) (i:Int)).length=0 then [] else 40 :: ((kidsW (trieW ws) (i:Int)).flatMap (fun x=>lw (textX (trieW ws) n x)) ++ [41])) ++ rest) way (preX ws (i:Int)) W=implP rest way (preX ws (i:Int)) (W ++ (kidsW (trieW ws) (i:Int)).flatMap (readX ws n)):=by
      intro W hW
      by_cases hk:(kidsW (trieW ws) (i:Int)).length=0
      · rw [if_pos hk,List.eq_nil_of_length_eq_zero hk]
        simp
      · have hlt:(preX ws (i:Int)).size+1≤12:=by
          obtain ⟨x,hx⟩:=List.exists_mem_of_length_pos (Nat.pos_of_ne_zero hk)
          obtain ⟨j,d,rfl,hij,hj,d0,d1,e,ep⟩:=kidsW_mem hv.ok hx
          have hm2:preX ws (j:Int) ∈ prefW ws:=at_mem (by omega) (by omega)
          have h2:=(prefW_ok hv.ok hm2).1
          have hz:(preX ws (j:Int)).size=(preX ws (i:Int)).size+1:=by unfold preX;rw [ep,ByteArray.size_append,letterW_size]
          omega
        have s1:stepP 40 way (preX ws (i:Int)) W=some (way ++ [((preX ws (i:Int)).size:Int)],preX ws (i:Int),W):=by
          unfold stepP
          rw [if_neg (by decide),if_pos rfl]
          exact limP_ok h12 (by omega) (by rw [List.length_append,List.length_singleton];omega)
        obtain ⟨w',k2,k3⟩:=kids _ (fun _ h=>h) (way ++ [((preX ws (i:Int)).size:Int)]) (preX ws (i:Int)) W ([41] ++ rest) (by rw [List.length_append,List.length_singleton];omega) (topP_app _ _) (by rw [ByteArray.extract_zero_size]) hW
        have s2:stepP 41 (way ++ [((preX ws (i:Int)).size:Int)]) w' (W ++ (kidsW (trieW ws) (i:Int)).flatMap (readX ws n))=some (way,preX ws (i:Int),W ++ (kidsW (trieW ws) (i:Int)).flatMap (readX ws n)):=by
          unfold stepP
          rw [if_neg (by decide),if_neg (by decide),if_pos rfl,if_neg (by simp),topP_app,Int.toNat_natCast,k2]
          have e:(way ++ [((preX ws (i:Int)).size:Int)]).take ((way ++ [((preX ws (i:Int)).size:Int)]).length - 1)=way:=by simp
          rw [e]
          exact limP_ok h12 (by rw [List.length_append];omega) (by omega)
        rw [if_neg hk,List.cons_append,List.append_assoc,implP,s1]
        simp only
        rw [k3,List.singleton_append,implP,s2]
    have s0:stepP (UInt8.ofNat (97+c.toNat)) way w W=some (way,preX ws (i:Int),W):=by
      unfold stepP
      rw [if_neg hL46,if_neg hL40,if_neg hL41,if_pos ⟨by omega,by omega,by omega⟩,htop,Int.toNat_natCast,hw,← letter_lit c0 c1,← hp]
      exact limP_ok h12 (by omega) (by omega)
    rw [lw_text,lw_head h0 c0 c1 hc,List.append_assoc,List.cons_append,implP,s0]
    simp only [readX] at hW ⊢
    by_cases hf:(rT (trieW ws) (i:Int)).f2=true
    · rw [if_pos hf] at hW
      rw [List.length_append,List.length_singleton] at hW
      rw [if_pos hf,if_pos hf,List.singleton_append,implP]
      have s1:stepP 46 way (preX ws (i:Int)) W=some (way,preX ws (i:Int),W ++ [preX ws (i:Int)]):=by
        unfold stepP
        rw [if_pos rfl]
        exact limP_ok h12 (by rw [List.length_append,List.length_singleton];omega) (by omega)
      rw [s1]
      simp only
      rw [tail _ (by rw [List.length_append,List.length_singleton];omega),List.append_assoc]
    · rw [if_neg hf] at hW
      rw [List.length_append,List.length_nil] at hW
      rw [if_neg hf,if_neg hf,List.nil_append,tail _ (by omega),List.nil_append]
end Go.Proofs.Ytghkbgmbbcaecaa.Q
namespace Go.Proofs.Ytghkbgmbbcaecaa.Q
open Go.RowKit Go.Proofs.YtghkbgmbbcaecaaW.PrintWords Go.Proofs.YtghkbgmbbcaecaaW.PrintLast
set_option linter.unusedVariables false
theorem flag_at {ws:List ByteArray} {a:Nat} (ha:a<(prefW ws).length):(rT (trieW ws) (a:Int)).f2=hasW ws (preX ws (a:Int)):=by
  rw [rd_trieW ws ha]
  unfold nodeW preX
  split <;> rfl
theorem kidsF_of {l:List IN} {a:Int}:∀ {r:List Nat} {i:Nat},i ∈ r→(rT l (i:Int)).f1=a→(i:Int) ∈ kidsF l a r
  | j :: r,i,h,hf=>by
    simp only [kidsF]
    rcases List.mem_cons.1 h with rfl|h
    · rw [if_pos hf];exact List.mem_cons_self
    · split
      · exact List.mem_cons_of_mem _ (kidsF_of h hf)
      · exact kidsF_of h hf
theorem read_mem {ws:List ByteArray} (hv:VW ws):∀ (n a:Nat),a<(prefW ws).length→13≤(preX ws (a:Int)).size+n→∀ x,x ∈ readX ws n (a:Int) ↔ x ∈ ws∧lw (preX ws (a:Int)) <+: lw x:=by
  intro n
  induction n with
  | zero =>
    intro a ha h
    have hm:preX ws (a:Int) ∈ prefW ws:=at_mem (by omega) (by omega)
    have:=(prefW_ok hv.ok hm).1
    omega
  | succ n ih =>
    intro a ha hn x
    simp only [readX]
    rw [List.mem_append,List.mem_flatMap]
    constructor
    · rintro (h|⟨y,hy,h⟩)
      · by_cases hf:(rT (trieW ws) (a:Int)).f2=true
        · rw [if_pos hf,List.mem_singleton] at h
          rw [flag_at ha] at hf
          rw [h]
          exact ⟨(hasW_iff _ _).1 hf,List.prefix_rfl⟩
        · rw [if_neg hf] at h;cases h
      · obtain ⟨j,d,rfl,hij,hj,d0,d1,e,ep⟩:=kidsW_mem hv.ok hy
        have epx:preX ws (j:Int)=preX ws (a:Int) ++ letterW d:=ep
        have hz:(preX ws (j:Int)).size=(preX ws (a:Int)).size+1:=by rw [epx,ByteArray.size_append,letterW_size]
        obtain ⟨h1,h2⟩:=(ih j hj (by omega) x).1 h
        rw [epx,lw_app] at h2
        exact ⟨h1,(List.prefix_append _ _).trans h2⟩
    · rintro ⟨hx,t,ht⟩
      cases t with
      | nil =>
        rw [List.append_nil] at ht
        have e:=lw_inj ht
        left
        rw [if_pos (by rw [flag_at ha,e];exact (hasW_iff _ _).2 hx),List.mem_singleton,e]
      | cons c t =>
        right
        have hlen:=congrArg List.length ht
        rw [List.length_append,List.length_cons,lw_length,lw_length] at hlen
        have hpx:x.extract 0 ((preX ws (a:Int)).size+1) ∈ prefW ws:=mem_prefW.2 (.inr ⟨x,hx,(preX ws (a:Int)).size,by omega,rfl⟩)
        obtain ⟨j,hj,hjx⟩:=List.getElem_of_mem hpx
        have hjp:preX ws (j:Int)=x.extract 0 ((preX ws (a:Int)).size+1):=by show rdOf ByteArray.empty (prefW ws) (j:Int)=_;rw [rd_nat _ hj,hjx]
        have hz:(preX ws (j:Int)).size=(preX ws (a:Int)).size+1:=by rw [hjp];exact ext_size _ _ (by omega)
        have h0:0<j:=by
          rcases Nat.eq_zero_or_pos j with rfl|h
          · have:preX ws ((0:Nat):Int)=ByteArray.empty:=prefW_zero ws
            rw [this] at hz
            have:ByteArray.empty.size=0:=rfl
            omega
          · exact h
        obtain ⟨m,hm1,hm2,e1,e2,e3,e4⟩:=node_at ws hv.ok h0 hj
        have hma:preX ws (m:Int)=preX ws (a:Int):=by
          unfold preX
          rw [hm2]
          show (preX ws (j:Int)).extract 0 ((preX ws (j:Int)).size - 1)=preX ws (a:Int)
          rw [hz,hjp,Nat.add_sub_cancel,ext_ext _ _ _ (by omega)]
          apply lw_inj
          rw [lw_extract,← ht,← lw_length,List.take_left']
          rfl
        have hmi:m=a:=idx_inj (prefW_ss ws) (by omega) ha hma
        refine ⟨(j:Int),kidsF_of (by rw [List.mem_range'_1,trieW_length];omega) (by rw [rd_trieW ws hj,e1,hmi]),(ih j hj (by omega) x).2 ⟨hx,?_⟩⟩
        rw [hjp,lw_extract]
        exact List.take_prefix _ _
theorem lt_app {p q:List UInt8} (r s:List UInt8) (hl:p.length=q.length) (h:p<q):p ++ r<q ++ s:=by
  induction p generalizing q with
  | nil=>cases q with
    | nil=>exact absurd h (List.lt_irrefl _)
    | cons b q=>cases hl
  | cons a p ih=>cases q with
    | nil=>cases hl
    | cons b q =>
      rw [List.cons_append,List.cons_append,List.cons_lt_cons_iff]
      rcases List.cons_lt_cons_iff.1 h with h|⟨e,h⟩
      · exact .inl h
      · exact .inr ⟨e,ih (by simpa using hl) h⟩
theorem lt_longer (p:List UInt8) (c:UInt8) (t:List UInt8):p<p ++ c :: t:=by
  have h:=take_lt (p ++ c :: t) p.length (by simp)
  rw [List.take_left' rfl] at h
  exact h
theorem read_ss {ws:List ByteArray} (hv:VW ws):∀ (n a:Nat),a<(prefW ws).length→13≤(preX ws (a:Int)).size+n→SS (readX ws n (a:Int)):=by
  intro n
  induction n with
  | zero=>intro a ha h;exact List.Pairwise.nil
  | succ n ih =>
    intro a ha hn
    have kid:∀ y ∈ kidsW (trieW ws) (a:Int),∃ (j:Nat) (d:Int),y=(j:Int)∧j<(prefW ws).length∧0≤d∧d≤25∧preX ws (j:Int)=preX ws (a:Int) ++ letterW d∧13≤(preX ws (j:Int)).size+n:=fun y hy=>by
      obtain ⟨j,d,rfl,hij,hj,d0,d1,e,ep⟩:=kidsW_mem hv.ok hy
      have epx:preX ws (j:Int)=preX ws (a:Int) ++ letterW d:=ep
      have hz:(preX ws (j:Int)).size=(preX ws (a:Int)).size+1:=by rw [epx,ByteArray.size_append,letterW_size]
      exact ⟨j,d,rfl,hj,d0,d1,epx,by omega⟩
    unfold SS
    simp only [readX]
    rw [List.pairwise_append,List.pairwise_flatMap]
    refine ⟨by split <;> simp,⟨fun y hy=>?_,?_⟩,fun x hx y hy=>?_⟩
    · obtain ⟨j,d,rfl,hj,_,_,_,h13⟩:=kid y hy
      exact ih j hj h13
    · have h0:(kidsW (trieW ws) (a:Int)).Pairwise (·<·):=kidsF_asc List.pairwise_lt_range'
      refine (List.Pairwise.and_mem.1 h0).imp (fun {y z} h=>?_)
      obtain ⟨hy,hz,hlt⟩:=h
      obtain ⟨j,d,rfl,hj,d0,d1,e1,h13⟩:=kid y hy
      obtain ⟨m,f,rfl,hm,f0,f1,e2,h14⟩:=kid z hz
      intro u hu v hw
      obtain ⟨_,r,hr⟩:=(read_mem hv n j hj h13 u).1 hu
      obtain ⟨_,s,hs⟩:=(read_mem hv n m hm h14 v).1 hw
      rw [← hr,← hs]
      refine lt_app r s ?_ (ss_at (prefW_ss ws) (show j<m by omega) hm)
      rw [lw_length,lw_length,e1,e2,ByteArray.size_append,ByteArray.size_append,letterW_size,letterW_size]
    · by_cases hf:(rT (trieW ws) (a:Int)).f2=true
      · rw [if_pos hf,List.mem_singleton] at hx
        obtain ⟨z,hz,hy⟩:=List.mem_flatMap.1 hy
        obtain ⟨j,d,rfl,hj,d0,d1,e1,h13⟩:=kid z hz
        obtain ⟨_,r,hr⟩:=(read_mem hv n j hj h13 y).1 hy
        rw [hx,← hr,e1,lw_app,lw_letterW d d0 d1,List.append_assoc]
        exact lt_longer _ _ _
      · rw [if_neg hf] at hx;cases hx
theorem read_root {ws:List ByteArray} (hv:VW ws):readX ws 13 0=ws:=by
  have h0:=prefW_pos ws
  refine ss_ext (read_ss hv 13 0 h0 (by omega)) hv.ss (fun x=>?_)
  have h:=read_mem hv 13 0 h0 (by omega) x
  have e:preX ws ((0:Nat):Int)=ByteArray.empty:=prefW_zero ws
  rw [e] at h
  exact h.trans ⟨fun q=>q.1,fun q=>⟨q,List.nil_prefix⟩⟩
end Go.Proofs.Ytghkbgmbbcaecaa.Q
namespace Go.Proofs.Ytghkbgmbbcaecaa.Q
open Go.RowKit Go.Proofs.YtghkbgmbbcaecaaW.PrintWords Go.Proofs.YtghkbgmbbcaecaaW.PrintLast
set_option linter.unusedVariables false
theorem lw_head0 (ws:List ByteArray):lw (headX (trieW ws) ((0:Nat):Int))=if (rT (trieW ws) ((0:Nat):Int)).f2=true then [46] else []:=by
  have hb:baseX (trieW ws) ((0:Nat):Int)=⟨#[]⟩:=by unfold baseX;rw [if_neg (by omega)]
  unfold headX
  split
  · rw [lw_app,hb];rfl
  · rw [hb];rfl
theorem spec_root {ws:List ByteArray} (hv:VW ws):specP (lw (textX (trieW ws) 13 ((0:Nat):Int))) [] ⟨#[]⟩ ⟨#[]⟩=ws:=by
  have hp0:preX ws ((0:Nat):Int)=⟨#[]⟩:=prefW_zero ws
  have hz0:(preX ws ((0:Nat):Int)).size=0:=by rw [hp0];rfl
  have kids:∀ (ks:List Int),(∀ x ∈ ks,x ∈ kidsW (trieW ws) ((0:Nat):Int))→∀ (W:List ByteArray) (l:ByteArray) (rest:List UInt8),∃ l',specP (ks.flatMap (fun x=>lw (textX (trieW ws) 12 x)) ++ rest) W (preX ws ((0:Nat):Int)) l=specP rest (W ++ ks.flatMap (readX ws 12)) (preX ws ((0:Nat):Int)) l':=by
    intro ks
    induction ks with
    | nil=>intro _ W l rest;exact ⟨l,by simp⟩
    | cons x ks ih2 =>
      intro hk W l rest
      obtain ⟨j,d,rfl,hij,hj,d0,d1,e,ep⟩:=kidsW_mem hv.ok (hk x List.mem_cons_self)
      have h1:=specP_node hv 12 j 0 d (by omega) hj d0 d1 e ep (by
        have:(preX ws (j:Int)).size=(preX ws ((0:Nat):Int)).size+1:=by unfold preX;rw [ep,ByteArray.size_append,letterW_size]
        omega) W l (ks.flatMap (fun x=>lw (textX (trieW ws) 12 x)) ++ rest)
      obtain ⟨l',h2⟩:=ih2 (fun y hy=>hk y (List.mem_cons_of_mem _ hy)) (W ++ readX ws 12 (j:Int)) (letterW d) rest
      refine ⟨l',?_⟩
      rw [List.flatMap_cons,List.flatMap_cons,List.append_assoc,h1,h2,List.append_assoc]
  have tail:∀ (W:List ByteArray),specP (if (kidsW (trieW ws) ((0:Nat):Int)).length=0 then [] else 40 :: ((kidsW (trieW ws) ((0:Nat):Int)).flatMap (fun x=>lw (textX (trieW ws) 12 x)) ++ [41])) W ⟨#[]⟩ ⟨#[]⟩=W ++ (kidsW (trieW ws) ((0:Nat):Int)).flatMap (readX ws 12):=by
    intro W
    by_cases hk:(kidsW (trieW ws) ((0:Nat):Int)).length=0
    · rw [if_pos hk,List.eq_nil_of_length_eq_zero hk]
      simp [specP]
    · rw [if_neg hk,specP,if_neg (by decide),if_pos rfl]
      have e0:(⟨#[]⟩:ByteArray) ++ ⟨#[]⟩=preX ws ((0:Nat):Int):=by rw [hp0];rfl
      rw [e0]
      obtain ⟨l',h2⟩:=kids _ (fun _ h=>h) W ⟨#[]⟩ [41]
      rw [h2,specP,if_neg (by decide),if_neg (by decide),if_pos rfl,if_pos hz0,specP]
  have hr:=read_root hv
  have hr2:(if (rT (trieW ws) ((0:Nat):Int)).f2=true then [preX ws ((0:Nat):Int)] else []) ++ (kidsW (trieW ws) ((0:Nat):Int)).flatMap (readX ws 12)=ws:=hr
  rw [lw_text,lw_head0]
  by_cases hf:(rT (trieW ws) ((0:Nat):Int)).f2=true
  · rw [if_pos hf] at hr2 ⊢
    rw [List.singleton_append,specP,if_pos rfl,tail]
    have e0:(⟨#[]⟩:ByteArray) ++ ⟨#[]⟩=preX ws ((0:Nat):Int):=by rw [hp0];rfl
    rw [List.nil_append,e0]
    exact hr2
  · rw [if_neg hf] at hr2 ⊢
    rw [List.nil_append,tail]
    exact hr2
theorem impl_root {ws:List ByteArray} (hv:VW ws):implP (lw (textX (trieW ws) 13 ((0:Nat):Int))) [] ⟨#[]⟩ []=some ws:=by
  have hp0:preX ws ((0:Nat):Int)=⟨#[]⟩:=prefW_zero ws
  have hz0:(preX ws ((0:Nat):Int)).size=0:=by rw [hp0];rfl
  have hlen:=hv.len
  have kids:∀ (ks:List Int),(∀ x ∈ ks,x ∈ kidsW (trieW ws) ((0:Nat):Int))→∀ (w:ByteArray) (W:List ByteArray) (rest:List UInt8),W.length+(ks.flatMap (readX ws 12)).length≤40 →
      ∃ w',implP (ks.flatMap (fun x=>lw (textX (trieW ws) 12 x)) ++ rest) [0] w W=implP rest [0] w' (W ++ ks.flatMap (readX ws 12)):=by
    intro ks
    induction ks with
    | nil=>intro _ w W rest _;exact ⟨w,by simp⟩
    | cons x ks ih2 =>
      intro hk w W rest h4
      rw [List.flatMap_cons,List.length_append] at h4
      obtain ⟨j,d,rfl,hij,hj,d0,d1,e,ep⟩:=kidsW_mem hv.ok (hk x List.mem_cons_self)
      have hz:(preX ws (j:Int)).size=(preX ws ((0:Nat):Int)).size+1:=by unfold preX;rw [ep,ByteArray.size_append,letterW_size]
      have k1:=implP_node hv 12 j 0 d (by omega) hj d0 d1 e ep (by omega) [0] w W (ks.flatMap (fun x=>lw (textX (trieW ws) 12 x)) ++ rest) (by rw [hz0];rfl) (by rw [hz0];rfl) (by rw [hz0,hp0];exact ext0 w) (by omega)
      obtain ⟨w',k3⟩:=ih2 (fun y hy=>hk y (List.mem_cons_of_mem _ hy)) (preX ws (j:Int)) (W ++ readX ws 12 (j:Int)) rest (by rw [List.length_append];omega)
      refine ⟨w',?_⟩
      rw [List.flatMap_cons,List.flatMap_cons,List.append_assoc,k1,k3,List.append_assoc]
  have tail:∀ (W:List ByteArray),W.length+((kidsW (trieW ws) ((0:Nat):Int)).flatMap (readX ws 12)).length≤40→implP (if (kidsW (trieW ws) ((0:Nat):Int)).length=0 then [] else 40 :: ((kidsW (trieW ws) ((0:Nat):Int)).flatMap (fun x=>lw (textX (trieW ws) 12 x)) ++ [41])) [] ⟨#[]⟩ W=some (W ++ (kidsW (trieW ws) ((0:Nat):Int)).flatMap (readX ws 12)):=by
    intro W hW
    by_cases hk:(kidsW (trieW ws) ((0:Nat):Int)).length=0
    · rw [if_pos hk,List.eq_nil_of_length_eq_zero hk]
      simp [implP]
    · have s1:stepP 40 [] ⟨#[]⟩ W=some ([0],⟨#[]⟩,W):=by
        unfold stepP
        rw [if_neg (by decide),if_pos rfl]
        exact limP_ok (by decide) (by omega) (by decide)
      obtain ⟨w',k3⟩:=kids _ (fun _ h=>h) ⟨#[]⟩ W [41] hW
      have s2:stepP 41 [0] w' (W ++ (kidsW (trieW ws) ((0:Nat):Int)).flatMap (readX ws 12))=some ([],w'.extract 0 0,W ++ (kidsW (trieW ws) ((0:Nat):Int)).flatMap (readX ws 12)):=by
        unfold stepP
        rw [if_neg (by decide),if_neg (by decide),if_pos rfl,if_neg (by decide)]
        exact limP_ok (by show (w'.extract 0 0).size≤12;rw [ext0];decide) (by rw [List.length_append];omega) (by decide)
      rw [if_neg hk,implP,s1]
      simp only
      rw [k3,implP,s2]
      rfl
  have hr2:(if (rT (trieW ws) ((0:Nat):Int)).f2=true then [preX ws ((0:Nat):Int)] else []) ++ (kidsW (trieW ws) ((0:Nat):Int)).flatMap (readX ws 12)=ws:=read_root hv
  have hl2:=congrArg List.length hr2
  rw [List.length_append] at hl2
  rw [lw_text,lw_head0]
  by_cases hf:(rT (trieW ws) ((0:Nat):Int)).f2=true
  · rw [if_pos hf] at hr2 hl2 ⊢
    rw [List.length_singleton] at hl2
    have s1:stepP 46 [] ⟨#[]⟩ []=some ([],⟨#[]⟩,[⟨#[]⟩]):=by
      unfold stepP
      rw [if_pos rfl]
      exact limP_ok (by decide) (by decide) (by decide)
    rw [List.singleton_append,implP,s1]
    simp only
    rw [tail _ (by rw [List.length_singleton];omega),← hp0]
    exact congrArg some hr2
  · rw [if_neg hf] at hr2 hl2 ⊢
    rw [List.length_nil] at hl2
    rw [List.nil_append,tail _ (by rw [List.length_nil];omega)]
    exact congrArg some hr2
end Go.Proofs.Ytghkbgmbbcaecaa.Q
namespace Go.Proofs.Ytghkbgmbbcaecaa.Q
open Go.RowKit Go.Proofs.YtghkbgmbbcaecaaW.PrintWords Go.Proofs.YtghkbgmbbcaecaaW.PrintLast
set_option linter.unusedVariables false
theorem size_lw (b:ByteArray):b.size=(lw b).length:=(lw_length b).symm
theorem read_pos {ws:List ByteArray} (hv:VW ws) (n a:Nat) (h0:0<a) (ha:a<(prefW ws).length) (hn:13≤(preX ws (a:Int)).size+n):1≤(readX ws n (a:Int)).length:=by
  have hm:preX ws (a:Int) ∈ prefW ws:=at_mem (by omega) (by omega)
  rcases mem_prefW.1 hm with e|⟨w,hw,j,hj,e⟩
  · have:=prefW_nonzero ws h0 ha
    have e2:rdOf ByteArray.empty (prefW ws) (a:Int)=ByteArray.empty:=e
    rw [e2] at this
    exact absurd rfl this
  · have:w ∈ readX ws n (a:Int):=(read_mem hv n a ha hn w).2 ⟨hw,by rw [e,lw_extract];exact List.take_prefix _ _⟩
    exact List.length_pos_of_mem this
theorem sum_bound {D:Nat} (T:Int→List UInt8) (R:Int→List ByteArray):∀ (ks:List Int),(∀ x ∈ ks,(T x).length+1≤D * (R x).length)→(ks.flatMap T).length+ks.length≤D * (ks.flatMap R).length
  | [],_=>by simp
  | x :: ks,h=>by
    have h1:=h x List.mem_cons_self
    have h2:=sum_bound T R ks (fun y hy=>h y (List.mem_cons_of_mem _ hy))
    rw [List.flatMap_cons,List.flatMap_cons,List.length_append,List.length_append,List.length_cons,Nat.mul_add]
    omega
theorem len_flat (R:Int→List ByteArray):∀ (ks:List Int),(∀ x ∈ ks,1≤(R x).length)→ks.length≤(ks.flatMap R).length
  | [],_=>by simp
  | x :: ks,h=>by
    have h1:=h x List.mem_cons_self
    have h2:=len_flat R ks (fun y hy=>h y (List.mem_cons_of_mem _ hy))
    rw [List.flatMap_cons,List.length_append,List.length_cons]
    omega
theorem text_size {ws:List ByteArray} (hv:VW ws):∀ (n a:Nat),0<a→a<(prefW ws).length→(preX ws (a:Int)).size+n=13→(lw (textX (trieW ws) n (a:Int))).length+1≤3 * n * (readX ws n (a:Int)).length:=by
  intro n
  induction n with
  | zero =>
    intro a _ ha h
    have hm:preX ws (a:Int) ∈ prefW ws:=at_mem (by omega) (by omega)
    have:=(prefW_ok hv.ok hm).1
    omega
  | succ n ih =>
    intro a h0 ha hn
    have hpos:=read_pos hv (n+1) a h0 ha (by omega)
    have kid:∀ y ∈ kidsW (trieW ws) (a:Int),(lw (textX (trieW ws) n y)).length+1≤3 * n * (readX ws n y).length∧1≤(readX ws n y).length:=fun y hy=>by
      obtain ⟨j,d,rfl,hij,hj,d0,d1,e,ep⟩:=kidsW_mem hv.ok hy
      have hz:(preX ws (j:Int)).size=(preX ws (a:Int)).size+1:=by unfold preX;rw [ep,ByteArray.size_append,letterW_size]
      exact ⟨ih j (by omega) hj (by omega),read_pos hv n j (by omega) hj (by omega)⟩
    have hs:=sum_bound (D:=3 * n) (fun x=>lw (textX (trieW ws) n x)) (readX ws n) _ (fun x hx=>(kid x hx).1)
    have hl:=len_flat (readX ws n) _ (fun x hx=>(kid x hx).2)
    obtain ⟨c,j,hj,_,hc,c0,c1,_⟩:=par_at hv.ok h0 ha
    have hh:(lw (headX (trieW ws) (a:Int))).length≤1+(if (rT (trieW ws) (a:Int)).f2=true then 1 else 0):=by
      unfold headX
      have hb:=baseX_size (trieW ws) (a:Int)
      split
      · rw [lw_app,List.length_append,lw_length]
        have:(lw (⟨#[46]⟩:ByteArray)).length=1:=rfl
        omega
      · rw [lw_length];omega
    have hr:(readX ws (n+1) (a:Int)).length=(if (rT (trieW ws) (a:Int)).f2=true then 1 else 0)+((kidsW (trieW ws) (a:Int)).flatMap (readX ws n)).length:=by
      show ((if (rT (trieW ws) (a:Int)).f2=true then [preX ws (a:Int)] else []) ++ (kidsW (trieW ws) (a:Int)).flatMap (readX ws n)).length=_
      rw [List.length_append]
      congr 1
      split <;> rfl
    have e3:3 * (n+1) * (readX ws (n+1) (a:Int)).length=3 * n * (readX ws (n+1) (a:Int)).length+3 * (readX ws (n+1) (a:Int)).length:=by rw [show 3 * (n+1)=3 * n+3 by omega,Nat.add_mul]
    have e4:3 * n * ((kidsW (trieW ws) (a:Int)).flatMap (readX ws n)).length≤3 * n * (readX ws (n+1) (a:Int)).length:=Nat.mul_le_mul_left _ (by omega)
    rw [lw_text,List.length_append,e3]
    by_cases hk:(kidsW (trieW ws) (a:Int)).length=0
    · rw [if_pos hk,List.length_nil]
      split at hh <;> omega
    · rw [if_neg hk,List.length_cons,List.length_append,List.length_singleton]
      by_cases hf:(rT (trieW ws) (a:Int)).f2=true
      · rw [if_pos hf] at hh hr
        omega
      · rw [if_neg hf] at hh hr
        omega
theorem root_size {ws:List ByteArray} (hv:VW ws):(textX (trieW ws) 13 ((0:Nat):Int)).size≤1443:=by
  have hlen:=hv.len
  have hz0:(preX ws ((0:Nat):Int)).size=0:=by have:preX ws ((0:Nat):Int)=ByteArray.empty:=prefW_zero ws;rw [this];rfl
  have kid:∀ y ∈ kidsW (trieW ws) ((0:Nat):Int),(lw (textX (trieW ws) 12 y)).length+1≤36 * (readX ws 12 y).length:=fun y hy=>by
    obtain ⟨j,d,rfl,hij,hj,d0,d1,e,ep⟩:=kidsW_mem hv.ok hy
    have hz:(preX ws (j:Int)).size=(preX ws ((0:Nat):Int)).size+1:=by unfold preX;rw [ep,ByteArray.size_append,letterW_size]
    exact text_size hv 12 j (by omega) hj (by omega)
  have hs:=sum_bound (D:=36) (fun x=>lw (textX (trieW ws) 12 x)) (readX ws 12) _ kid
  have hr2:(if (rT (trieW ws) ((0:Nat):Int)).f2=true then [preX ws ((0:Nat):Int)] else []) ++ (kidsW (trieW ws) ((0:Nat):Int)).flatMap (readX ws 12)=ws:=read_root hv
  have hl2:=congrArg List.length hr2
  rw [List.length_append] at hl2
  rw [size_lw,lw_text,lw_head0,List.length_append]
  have h1:(if (rT (trieW ws) ((0:Nat):Int)).f2=true then [46] else ([]:List UInt8)).length≤1:=by split <;> simp
  by_cases hk:(kidsW (trieW ws) ((0:Nat):Int)).length=0
  · rw [if_pos hk,List.length_nil];omega
  · rw [if_neg hk,List.length_cons,List.length_append,List.length_singleton];omega
theorem limP_some {way:List Int} {w:ByteArray} {W:List ByteArray} {x:List Int × ByteArray × List ByteArray} (h:limP way w W=some x):x=(way,w,W)∧w.size≤12∧W.length≤40:=by
  unfold limP at h
  split at h
  · cases h
  · rename_i hh
    exact ⟨(Option.some.inj h).symm,by omega,by omega⟩
theorem implP_words:∀ (l:List UInt8) (way:List Int) (w:ByteArray) (W R:List ByteArray),okWord w→(∀ x ∈ W,okWord x)→W.length≤40→implP l way w W=some R→(∀ x ∈ R,okWord x)∧R.length≤40
  | [],way,w,W,R,hw,hW,h40,h=>by rw [implP] at h;cases h;exact ⟨hW,h40⟩
  | c :: r,way,w,W,R,hw,hW,h40,h=>by
    rw [implP] at h
    cases hst:stepP c way w W with
    | none=>rw [hst] at h;cases h
    | some x =>
      rw [hst] at h
      have cut:∀ m,okWord (w.extract 0 m):=fun m=>⟨by have:=hw.1;rw [ByteArray.size_extract];omega,letters_cut hw.2 m⟩
      have key:okWord x.2.1∧(∀ y ∈ x.2.2,okWord y)∧x.2.2.length≤40:=by
        unfold stepP at hst
        by_cases h1:c=46
        · rw [if_pos h1] at hst
          obtain ⟨rfl,h2,h3⟩:=limP_some hst
          exact ⟨hw,fun y hy=>by rcases List.mem_append.1 hy with hy|hy;exact hW y hy;rw [List.mem_singleton.1 hy];exact hw,h3⟩
        rw [if_neg h1] at hst
        by_cases h2:c=40
        · rw [if_pos h2] at hst
          obtain ⟨rfl,h2,h3⟩:=limP_some hst
          exact ⟨hw,hW,h3⟩
        rw [if_neg h2] at hst
        by_cases h3:c=41
        · rw [if_pos h3] at hst
          split at hst
          · cases hst
          · obtain ⟨rfl,h2,h3⟩:=limP_some hst
            exact ⟨cut _,hW,h3⟩
        rw [if_neg h3] at hst
        split at hst
        · rename_i hc
          obtain ⟨rfl,h2,h3⟩:=limP_some hst
          refine ⟨⟨h2,fun y hy=>?_⟩,hW,h3⟩
          have hy2:y ∈ lw (w.extract 0 (topP way).toNat ++ ⟨#[c]⟩):=hy
          rw [lw_app] at hy2
          rcases List.mem_append.1 hy2 with hy2|hy2
          · exact (cut _).2 y hy2
          · have:y=c:=List.mem_singleton.1 hy2
            rw [this]
            exact ⟨hc.1,hc.2.1⟩
        · cases hst
      exact implP_words r x.1 x.2.1 x.2.2 R key.1 key.2.1 key.2.2 h
end Go.Proofs.Ytghkbgmbbcaecaa.Q
namespace Go.Proofs.Ytghkbgmbbcaecaa.Q
open Go.RowKit Go.Proofs.YtghkbgmbbcaecaaW.PrintWords Go.Proofs.YtghkbgmbbcaecaaW.PrintLast
def mkN (i:Nat):IN:=⟨((1+3 * i:Nat):Int),((2+3 * i:Nat):Int),(Int.tmod ((3+3 * i:Nat):Int) 3 == 0)⟩
theorem markH_l0:∀ (d:Nat) (l:List IN) (i:Nat),i+d=l.length→l.length≤1048576→(∀ j (h:j<l.length),j<i→l[j]=mkN j) →
    ∃ ms:List IN,ms.length=l.length∧(∀ j (h:j<ms.length),ms[j]=mkN j)∧Ev (fun k=>laws_markNodeS.l0 k l ((1+3 * i:Nat):Int) (i:Int)) (((1+3 * l.length:Nat):Int),ms):=by
  intro d
  induction d with
  | zero =>
    intro l i h hl hm
    refine ⟨l,rfl,fun j hj=>hm j hj (by omega),Ev.succ ?_⟩
    simp only [laws_markNodeS.l0]
    obtain rfl:i=l.length:=by omega
    exact Ev.neg (by omega) (Ev.pure _)
  | succ d ih =>
    intro l i h hl hm
    have hi:i<l.length:=by omega
    have e1:wrap64 (((1+3 * i:Nat):Int)+1)=((2+3 * i:Nat):Int):=by unfold wrap64;omega
    have e2:wrap64 (((2+3 * i:Nat):Int)+1)=((3+3 * i:Nat):Int):=by unfold wrap64;omega
    have e3:wrap64 (((3+3 * i:Nat):Int)+1)=((1+3 * (i+1):Nat):Int):=by unfold wrap64;omega
    obtain ⟨y,hy⟩:∃ y,y=l.set (i:Int).toNat (⟨((1+3 * i:Nat):Int),(rT l (i:Int)).f1,(rT l (i:Int)).f2⟩:IN):=⟨_,rfl⟩
    have hyi:rT y (i:Int)=⟨((1+3 * i:Nat):Int),(rT l (i:Int)).f1,(rT l (i:Int)).f2⟩:=by
      rw [rd_nat' y i (by rw [hy,List.length_set];exact hi)]
      simp [hy]
    obtain ⟨z,hz⟩:∃ z,z=y.set (i:Int).toNat (⟨(rT y (i:Int)).f0,((2+3 * i:Nat):Int),(rT y (i:Int)).f2⟩:IN):=⟨_,rfl⟩
    have hyl:y.length=l.length:=by rw [hy,List.length_set]
    have hzl:z.length=l.length:=by rw [hz,List.length_set,hyl]
    have hzi:rT z (i:Int)=⟨((1+3 * i:Nat):Int),((2+3 * i:Nat):Int),(rT l (i:Int)).f2⟩:=by
      rw [rd_nat' z i (by omega)]
      simp [hz,hyi]
    have hw:z.set (i:Int).toNat ⟨(rT z (i:Int)).f0,(rT z (i:Int)).f1,(Int.tmod ((3+3 * i:Nat):Int) 3 == 0)⟩=l.set i (mkN i):=by
      rw [hzi,hz,hy,Int.toNat_natCast,List.set_set,List.set_set]
      rfl
    obtain ⟨ms,h1,h2,h3⟩:=ih (l.set i (mkN i)) (i+1) (by rw [List.length_set];omega) (by rw [List.length_set];exact hl) (fun j hj hji=>by
      rw [List.length_set] at hj
      rw [List.getElem_set]
      split
      · rename_i e;subst e;rfl
      · exact hm j hj (by omega))
    rw [List.length_set] at h1 h3
    refine ⟨ms,h1,h2,Ev.succ ?_⟩
    simp only [laws_markNodeS.l0,e1,e2,e3,Option.bind_some]
    rw [wnext i (by omega),← hy,← hz,hw]
    exact Ev.pos (by omega) (Ev.pos (by omega) h3)
theorem heldH_l0 (l:List IN) (hl:l.length≤1048576) (hm:∀ j (h:j<l.length),l[j]=mkN j):∀ (d i:Nat),i+d=l.length→Ev (fun k=>laws_heldNodeS.l0 k l ((1+3 * i:Nat):Int) (i:Int)) ((1+3 * l.length:Nat):Int):=by
  intro d
  induction d with
  | zero =>
    intro i h
    refine Ev.succ ?_
    simp only [laws_heldNodeS.l0]
    obtain rfl:i=l.length:=by omega
    exact Ev.neg (by omega) (Ev.pure _)
  | succ d ih =>
    intro i h
    have hi:i<l.length:=by omega
    have e1:wrap64 (((1+3 * i:Nat):Int)+1)=((2+3 * i:Nat):Int):=by unfold wrap64;omega
    have e2:wrap64 (((2+3 * i:Nat):Int)+1)=((3+3 * i:Nat):Int):=by unfold wrap64;omega
    have e3:wrap64 (((3+3 * i:Nat):Int)+1)=((1+3 * (i+1):Nat):Int):=by unfold wrap64;omega
    have hr:rT l (i:Int)=mkN i:=by rw [rd_nat' l i hi];exact hm i hi
    refine Ev.succ ?_
    simp only [laws_heldNodeS.l0,e1,e2,e3,hr]
    rw [wnext i (by omega)]
    exact Ev.pos (by omega) (Ev.pos (by omega) (Ev.pos rfl (Ev.pos rfl (Ev.neg (by simp [mkN]) (ih (i+1) (by omega))))))
theorem markH_ev (l:List IN) (hl:l.length≤1048576):∃ ms:List IN,Ev (fun k=>laws_markTrie.f k l 1) (((1+3 * l.length:Nat):Int),ms)∧Ev (fun k=>laws_heldTrie.f k ms 1) ((1+3 * l.length:Nat):Int):=by
  obtain ⟨ms,h1,h2,h3⟩:=markH_l0 l.length l 0 (by omega) hl (fun j _ hj=>absurd hj (Nat.not_lt_zero _))
  refine ⟨ms,?_,?_⟩
  · unfold laws_markTrie.f laws_markNodeS.f;exact Ev.bind h3 (Ev.pure _)
  · unfold laws_heldTrie.f laws_heldNodeS.f
    have:=heldH_l0 ms (by omega) h2 ms.length 0 (by omega)
    rw [h1] at this
    exact Ev.bind this (Ev.neg (by omega) (Ev.pure _))
end Go.Proofs.Ytghkbgmbbcaecaa.Q
namespace Go.Proofs.Ytghkbgmbbcaecaa.Q
open Go.RowKit Go.Proofs.YtghkbgmbbcaecaaW.PrintWords Go.Proofs.YtghkbgmbbcaecaaW.PrintLast
theorem ends_ev (s:ByteArray) (W:List ByteArray) (hl:W.length≤4294967296) (hs:s.size≤1048576):Ev (endS s W) (if (∀ w ∈ W,okWord w)∧(setW W).length≤40∧textX (trieW (setW W)) 13 ((0:Nat):Int)=s then (trieW (setW W),true) else ([],false)):=by
  have h:=set_ev W hl
  unfold setRes at h
  unfold endS
  by_cases ho:∀ w ∈ W,okWord w
  · rw [if_pos ho] at h
    by_cases h40:(setW W).length≤40
    · rw [decide_eq_true (by omega)] at h
      have hv:VW (setW W):=⟨setW_ss W,fun w hw=>ho w (mem_setW.1 hw),h40⟩
      have ht:=specText_ev hv 13 0 (Nat.le_refl _) (prefW_pos _) (Nat.le_add_left _ _)
      refine Ev.bind h (Ev.pos rfl (Ev.bind (of_ev (setW W) (fun w hw=>ho w (mem_setW.1 hw)) (by omega)) (Ev.bind ht ?_)))
      by_cases he:textX (trieW (setW W)) 13 ((0:Nat):Int)=s
      · have hres:(if (∀ w ∈ W,okWord w)∧(setW W).length≤40∧textX (trieW (setW W)) 13 ((0:Nat):Int)=s then (trieW (setW W),true) else (([]:List IN),false))=(trieW (setW W),true):=if_pos ⟨ho,h40,he⟩
        rw [hres]
        exact Ev.pos (by rw [he]) (Ev.pure _)
      · have hres:(if (∀ w ∈ W,okWord w)∧(setW W).length≤40∧textX (trieW (setW W)) 13 ((0:Nat):Int)=s then (trieW (setW W),true) else (([]:List IN),false))=([],false):=if_neg (fun q=>he q.2.2)
        rw [hres]
        exact Ev.neg (fun e=>he ((tl_eq _ _).1 e)) (Ev.pure _)
    · rw [decide_eq_false (by omega)] at h
      rw [if_neg (fun q=>h40 q.2.1)]
      exact Ev.bind h (Ev.neg (by simp) (Ev.pure _))
  · rw [if_neg ho] at h
    rw [if_neg (fun q=>ho q.1)]
    exact Ev.bind h (Ev.neg (by simp) (Ev.pure _))
theorem endi_ev (s:ByteArray) (W:List ByteArray) (ho:∀ w ∈ W,okWord w) (hl:W.length≤40):Ev (endI s (some W)) (if (setW W).length≤40∧textX (trieW (setW W)) 13 ((0:Nat):Int)=s then (trieW (setW W),true) else ([],false)):=by
  have hset:impl_set.f W=some (setW W):=by unfold impl_set.f;rw [if_pos (by omega)]
  show Ev (fun k=>(impl_ofWords.f W).bind _) _
  unfold impl_ofWords.f
  rw [hset,Option.bind_some]
  by_cases h40:(setW W).length≤40
  · have hv:VW (setW W):=⟨setW_ss W,fun w hw=>ho w (mem_setW.1 hw),h40⟩
    have ht:=implText_ev hv 13 0 (Nat.le_refl _) (prefW_pos _) (Nat.le_add_left _ _)
    rw [if_neg (by omega),okTrieOf_of (fun w hw=>(ho w (mem_setW.1 hw)).1) (by omega) (SS.sw (setW_ss W)),Option.bind_some]
    refine Ev.bindc rfl (Ev.pos rfl (Ev.bind ht ?_))
    by_cases he:textX (trieW (setW W)) 13 ((0:Nat):Int)=s
    · have hres:(if (setW W).length≤40∧textX (trieW (setW W)) 13 ((0:Nat):Int)=s then (trieW (setW W),true) else (([]:List IN),false))=(trieW (setW W),true):=if_pos ⟨h40,he⟩
      rw [hres]
      exact Ev.pos (by rw [he]) (Ev.pure _)
    · have hres:(if (setW W).length≤40∧textX (trieW (setW W)) 13 ((0:Nat):Int)=s then (trieW (setW W),true) else (([]:List IN),false))=([],false):=if_neg (fun q=>he q.2)
      rw [hres]
      exact Ev.neg (fun e=>he ((tl_eq _ _).1 e)) (Ev.pure _)
  · rw [if_pos (by omega),if_neg (fun q=>h40 q.1)]
    exact Ev.bindc rfl (Ev.neg (by decide) (Ev.pure _))
theorem specP_len:∀ (l:List UInt8) (W:List ByteArray) (p q:ByteArray),(specP l W p q).length≤W.length+l.length
  | [],W,p,q=>by simp [specP]
  | c :: r,W,p,q=>by
    rw [specP,List.length_cons]
    split
    · have:=specP_len r (W ++ [p ++ q]) p q
      rw [List.length_append,List.length_singleton] at this
      omega
    · split
      · have:=specP_len r W (p ++ q) ⟨#[]⟩;omega
      · split
        · split
          · have:=specP_len r W p ⟨#[]⟩;omega
          · have:=specP_len r W (p.extract 0 (p.size - 1)) (p.extract (p.size - 1) p.size);omega
        · have:=specP_len r W p ⟨#[c]⟩;omega
theorem vw_le {ws:List ByteArray} (hv:VW ws):(trieW ws).length≤1048576:=by
  have:=trie_le hv
  omega
theorem both_ParseTrie (s:ByteArray) (hs:s.size≤1048576):∃ r,Ev (fun k=>spec_ParseTrie.f k s) r∧Ev (fun k=>impl_ParseTrie.f k s) r∧r.1.length≤1048576:=by
  have himp:∀ r,Ev (endI s (implP s.data.toList [] ⟨#[]⟩ [])) r→Ev (fun k=>impl_ParseTrie.f k s) r:=fun r h=>by
    unfold impl_ParseTrie.f
    exact implP_ev s hs r s.size 0 [] ⟨#[]⟩ [] (by omega) ⟨List.Pairwise.nil,(fun x hx=>by cases hx),(fun x hx=>by cases hx),by decide,by decide,by decide⟩ (by rw [List.drop_zero];exact h)
  have hspec:s.size≤1443→∀ r,Ev (endS s (specP s.data.toList [] ⟨#[]⟩ ⟨#[]⟩)) r→Ev (fun k=>spec_ParseTrie.f k s) r:=fun h1 r h=>by
    unfold spec_ParseTrie.f spec_l2Parse.f
    exact Ev.bind (Ev.neg (show ¬ (s.size:Int) > 1443 by omega) (specP_ev s h1 r s.size 0 [] ⟨#[]⟩ ⟨#[]⟩ (by omega) (Nat.le_refl _) (Nat.le_refl _) (by decide) (by rw [List.drop_zero];exact h))) (Ev.pure _)
  by_cases hT:∃ ws,VW ws∧textX (trieW ws) 13 ((0:Nat):Int)=s
  · obtain ⟨ws,hv,rfl⟩:=hT
    have hset:setW ws=ws:=setW_of_ss hv.ss
    refine ⟨(trieW ws,true),hspec (root_size hv) _ ?_,himp _ ?_,vw_le hv⟩
    · have e:specP (textX (trieW ws) 13 ((0:Nat):Int)).data.toList [] ⟨#[]⟩ ⟨#[]⟩=ws:=spec_root hv
      rw [e]
      have h:=ends_ev (textX (trieW ws) 13 ((0:Nat):Int)) ws (by have:=hv.len;omega) hs
      rw [hset,if_pos ⟨hv.ok,hv.len,rfl⟩] at h
      exact h
    · have e:implP (textX (trieW ws) 13 ((0:Nat):Int)).data.toList [] ⟨#[]⟩ []=some ws:=impl_root hv
      rw [e]
      have h:=endi_ev (textX (trieW ws) 13 ((0:Nat):Int)) ws hv.ok hv.len
      rw [hset,if_pos ⟨hv.len,rfl⟩] at h
      exact h
  · refine ⟨([],false),?_,himp _ ?_,by simp⟩
    · by_cases h1:s.size≤1443
      · refine hspec h1 _ ?_
        have hl:=specP_len s.data.toList [] ⟨#[]⟩ ⟨#[]⟩
        rw [Array.length_toList] at hl
        have hl2:(specP s.data.toList [] ⟨#[]⟩ ⟨#[]⟩).length≤s.size:=by simpa using hl
        have h:=ends_ev s (specP s.data.toList [] ⟨#[]⟩ ⟨#[]⟩) (by omega) hs
        rw [if_neg (fun q=>hT ⟨_,⟨setW_ss _,fun w hw=>q.1 w (mem_setW.1 hw),q.2.1⟩,q.2.2⟩)] at h
        exact h
      · unfold spec_ParseTrie.f spec_l2Parse.f
        exact Ev.bind (Ev.pos (show (s.size:Int) > 1443 by omega) (Ev.pure _)) (Ev.pure _)
    · cases hP:implP s.data.toList [] ⟨#[]⟩ [] with
      | none=>exact Ev.pure _
      | some W =>
        obtain ⟨ho,hl⟩:=implP_words _ _ _ _ _ ⟨by decide,letters_empty⟩ (fun x hx=>by cases hx) (by decide) hP
        have h:=endi_ev s W ho hl
        rw [if_neg (fun q=>hT ⟨_,⟨setW_ss _,fun w hw=>ho w (mem_setW.1 hw),q.1⟩,q.2⟩)] at h
        exact h
theorem pure_FnExactParseTrie (a0:ByteArray) (hw_a0:a0.size≤140737488351232):∃ k,laws_FnExactParseTrie.f k a0=some true:=by
  refine Ev.ex ?_
  unfold laws_FnExactParseTrie.f
  by_cases hs0:(a0.size:Int) > 1048576
  · exact Ev.pos hs0 (Ev.pure _)
  refine Ev.neg hs0 ?_
  obtain ⟨r,e1,e2,hr⟩:=both_ParseTrie a0 (by omega)
  have hq:=eqTrie_ev r.1 r.1 hr
  refine (Ev.bind e1 (Ev.bind e2 (Ev.bind hq (Ev.pos (by simp) (Ev.succ ?_)))))
  simp only [laws_FnExactParseTrie.j0]
  obtain ⟨ms,hs1,hs2⟩:=markH_ev r.1 hr
  refine Ev.neg (by simp) (Ev.bind hs1 (Ev.bind hs2 (Ev.neg (by omega) (Ev.pos rfl (Ev.bind e2 (Ev.bind hq (Ev.pos (by simp) (Ev.succ ?_))))))))
  simp only [laws_FnExactParseTrie.j1]
  exact Ev.neg (by simp) (Ev.bind hs2 (Ev.neg (by omega) (Ev.pos rfl (Ev.pure _))))
end Go.Proofs.Ytghkbgmbbcaecaa.Q
namespace Go.Proofs.Ytghkbgmbbcaecaa.Pure
theorem FnExactParseTrie (a0:ByteArray) (hw_a0:a0.size≤140737488351232):∃ k,Q.laws_FnExactParseTrie.f k a0=some true:=Q.pure_FnExactParseTrie a0 hw_a0
end Go.Proofs.Ytghkbgmbbcaecaa.Pure
namespace Go.Proofs.Ytghkbgmbbcaecaa.fnExactParseTrie
open Go.ChangeShapes Go.WideShapes Go.ChangeAt Go.RowKit
open Go.ChangeMaps (open_string shut_string)
set_option linter.unusedVariables false
theorem own:ownKnob Try.prog.godebug=none:=by kernel_rfl
set_option maxRecDepth 100000 in
theorem lifted (os:Os) (started:os.Started) (H:Type) (enc:TypeId × Value→H) :
    ReturnsInHanded {} Try.checked os 3 .any (Rows.fnExactParseTrieSpec.pre6 enc Try.prog Try.f3 Rows.fnExactParseTrieRow.domain false) (Rows.fnExactParseTrieSpec.post enc Try.prog Try.f3 false true false false):=by
  refine returnsInHanded_of_change_sized (C:=Try.checked) own started (by kernel_rfl) Try.func3
    (ChangeSpec.witness6 (enc:=enc) (C:=Try.checked) false ⟨#[],#[.string ByteArray.empty],[]⟩ 8 (by kernel_rfl) (by kernel_rfl) (by kernel_rfl) (by kernel_rfl)) ?_
  intro W base args ds gs before hval0 hW hcnd hsz0 _
  have hsz:(DataW.weightsEach Try.prog (Try.f3.params.toList ++ Rows.fnExactParseTrieSpec.plain.varTypes Try.prog) (ds ++ gs)).all (·≤reachBytes)=true:=hsz0
  have hval:∀ (j:Nat) t v,Try.f3.params[j]?=some t→args[j]?=some v→Value.okWide Try.prog W .any base t v:=hval0
  have hW':=hW
  obtain ⟨p,q,hA0,hV,rfl,hfz,hnd⟩:=hW
  have hA:DataW.TrodAll enc Try.prog W 0 (fun _=>true) true Try.f3.params.toList args.toList ds p:=hA0
  rw [Try.params3] at hA hval hsz
  obtain ⟨v0,vs0,d0,ds0,p0,q0,hargs,rfl,rfl,h0,r0⟩:=trodAll_cons hA
  obtain ⟨rfl,rfl,rfl⟩:=trodAll_nil r0
  obtain rfl:args=#[v0]:=by cases args;simp_all
  obtain ⟨rfl,rfl⟩:=trodVars_none hV
  obtain ⟨a0,rfl,rfl,rfl,y0⟩:=open_string Try.underlying9 (hval 0 9 v0 rfl rfl) h0
  have w0:a0.size≤140737488351232:=by
    have z:=sized_string hsz (j:=0) (t:=9) rfl rfl
    rw [Array.length_toList] at z
    exact z
  clear hA0 hval0 hsz0 hsz
  obtain ⟨k,hk⟩:=Pure.FnExactParseTrie a0 w0
  refine (Q.laws_FnExactParseTrie.calls k a0 true W hk).mono fun e W' ⟨he,bel0⟩=>?_
  have bel:Below W.heap.size W W':=bel0
  subst he
  exact ⟨_,rfl,_,_,_,[],_,[],hW',trodAll_mk1 (shut_bool Try.underlying4 _),(trodAll_cons_mk (shut_string Try.underlying9 y0) trodAll_mk0),rfl,bel.frame _,fun h=>by cases h⟩
theorem over:Rows.fnExactParseTrieRow.holds Try.pinned (OpenSpec.ofChange Rows.fnExactParseTrieSpec) :=
  OpenClaim.holds_of_wide 3 Try.f3 rfl rfl rfl rfl rfl rfl rfl ⟨rfl,rfl,rfl,rfl,rfl⟩ rfl rfl rfl rfl rfl (by kernel_rfl) Try.func3 (by kernel_rfl)
    (of_decide_eq_true (by kernel_rfl)) (by unfold Func.isWrapper;first|(rw [if_pos (by decide +kernel)];kernel_rfl)|(rw [if_neg (by decide +kernel)];exact ⟨rfl,rfl⟩))
    (fun os started H enc _=>lifted os started H enc)
theorem proved:Rows.FnExactParseTrieSaid:=over
end Go.Proofs.Ytghkbgmbbcaecaa.fnExactParseTrie
namespace Go.Proofs.Ytghkbgmbbcaecaa
theorem fnExactParseTrie_holds:Rows.FnExactParseTrieSaid:=fnExactParseTrie.proved
end Go.Proofs.Ytghkbgmbbcaecaa
