/-
  Part 29 of a proof: PN3 PN4 PO9 PO10 VR1 NR1 NR2 NR3.
-/
import Derived.Test.YtdokmmhjmclmnaaGreatMV05
import Derived.Test.YtdokmmhjmclmnaaGreatMV11
import Derived.Test.YtdokmmhjmclmnaaGreatMV15
import Derived.Test.YtdokmmhjmclmnaaGreatMV17
import Derived.Test.YtdokmmhjmclmnaaGreatMV21
import Derived.Test.YtdokmmhjmclmnaaGreatMV26
import Derived.Test.YtdokmmhjmclmnaaGreatMV28
set_option linter.unusedSimpArgs false
set_option linter.unusedVariables false
set_option linter.unusedSectionVars false
set_option linter.unnecessarySimpa false
namespace Go.Proofs.YtdokmmhjmclmnaaGreat
variable {W' w w' w0 wb:World} {B a b base c cap ce cn f g gb i j k lb m n oc s sc:Nat} {choice t x:Int} {G W fs l o xs z:List Int} {L:List Hp.Tl} {r:Rd} {S S':Hp.Hs} {A N T:List Nat} {M:List (Nat × Int)} {op p pe pn q sp:Option Addr} {d:Hd} {acts:List Hp.Act'}
namespace Nd
open Hp
theorem check_new {ch:Nat->List Nat} (h:Wf S B L ch) {c:Int} (h1:0<=c/\c < S.sizes.length) (h2:(l.length:Int)=S.sizes.getD c.toNat 0) (h3:∀ x ∈ l,∃ k ∈ S.taken,x=(k:Int)/\rank S.order (c+1) < rank S.order (ow S.words k)):S.checkNode c l=some 0:=by
 have hall:∀ x ∈ l,S.has x=true:=fun x hx=>by
  obtain ⟨b,hb,rfl,_⟩:=h3 x hx;exact has_of hb
 obtain ⟨b,hb1,hb2⟩:=laters_total h c l hall
 have hbt:b=true:=hb2.2 h3
 have hc:c.toNat < S.sizes.length:=by omega
 unfold Hs.checkNode
 rw [if_neg (by simp [within];omega),rd_ow hc]
 simp only [Option.bind_eq_bind,Option.bind_some]
 rw [if_neg (by have:ow S.sizes c.toNat=S.sizes.getD c.toNat 0:=rfl;omega),if_neg (by simpa using hall),hb1,hbt]
 simp
theorem fz_one {f:Nat->Int} (h:isEnd (f a)=true):fz f z a=[f (a+4)]:=by
 simp [fz,wz,h,cut]
theorem same_end (h:Same (ow S.words) (ow S'.words) z T) (ha:a ∈ T) (he:isEnd (ow S.words a)=true):ow S'.words (a+4)=ow S.words (a+4):=by
 have:=(h a ha).2 0 (by simp [wz,he])
 simpa using this
variable {d:Dia}
theorem ad_right {x:Nat} {k:Int} (h:k < N.length):ad A (N ++ [x]) k=ad A N k:=by
 unfold ad
 by_cases hk:k < 0
 . rw [if_pos hk,if_pos hk]
 rw [if_neg hk,if_neg hk,List.getD_eq_getElem?_getD,List.getD_eq_getElem?_getD,List.getElem?_append_left (by omega)]
theorem PutIn.end_ (P:PutIn d B n S A []) (hL:d.Loose) (O:Once d) (hA:A.length < d.ends.length) :
    (S.end' (d.endAt A.length).1 (d.endAt A.length).2=some (0,8,S)/\n < 8+16 * A.length) \/
    ∃ (a:Nat) (S':Hs),S.end' (d.endAt A.length).1 (d.endAt A.length).2=some ((a:Int),0,S')/\PutIn d B n S' (A ++ [a]) []:=by
  obtain ⟨L,ch,hw,h1,hs⟩:=P.wf;have hv:=hL.ends _ (endAt_mem hA).1;obtain ⟨v1,v2,v3,v4,v5⟩:=hv;have he:=isEnd_end hL hA;have hn:New S (20+(d.endAt A.length).1) [(d.endAt A.length).2]:=new_end v1 v2 v3 v4 v5;have hwz:wz S.sizes (20+(d.endAt A.length).1)=5:=by simp [wz,he]
  have hend:∀ r,S.add (20+(d.endAt A.length).1) [(d.endAt A.length).2]=some r->S.end' (d.endAt A.length).1 (d.endAt A.length).2=some (Hs.full r):=fun r hr=>by
   unfold Hs.end';rw [if_neg (by simp [within];omega),hr];rfl
  rcases add_one hw h1 hn with ⟨a,ha,q1,q2,e⟩ | ⟨hno,⟨hfull,e⟩ | ⟨a,S',L',ch',e,ha,hp,hw',h1',hsum⟩⟩
  . exfalso
    rcases P.all a ha with hm | hm
    . obtain ⟨i,hi⟩:=List.mem_iff_getElem?.1 hm;have hil:i < A.length:=by
       rcases Nat.lt_or_ge i A.length with h | h
       . exact h
       rw [List.getElem?_eq_none h] at hi
       cases hi
      obtain ⟨_,r1,r2⟩:=P.ends i a hi;have he':isEnd (ow S.words a)=true:=by rw [q1];exact he
      rw [fz_one he'] at q2;simp only [List.cons.injEq,and_true] at q2;have:d.endAt i=d.endAt A.length:=Prod.ext (by omega) (by omega);have:=nodup_inj O.ends (endAt_mem (i:=i) (by omega)).2 (this ▸ (endAt_mem hA).2);omega
    cases hm
  . left;rw [hend _ e];refine ⟨by simp [Hs.full], ?_⟩;simp only [List.length_nil] at hs;omega
  right;have hap:0 < a:=by omega
  refine ⟨a,S',by rw [hend _ e];simp only [Hs.full];rw [if_neg (by omega)], ?_⟩;refine ⟨⟨hp.sizes.trans P.sizes,hp.order.trans P.order,by simp;omega,by simp,.inl rfl,fun i b hi=>?_,fun i b hi=>by simp at hi⟩,⟨L',ch',hw',h1', ?_⟩,fun b hb=>?_, ?_⟩
  . rw [hp.taken]
    rcases Nat.lt_or_ge i A.length with h | h
    . rw [List.getElem?_append_left h] at hi;obtain ⟨r0,r1,r2⟩:=P.ends i b hi;have heb:isEnd (ow S.words b)=true:=by rw [r1];exact isEnd_end hL (by omega)
      refine ⟨(mem_ins _ _ _).2 (.inr r0), ?_, ?_⟩
      . rw [(hp.old b r0).1,r1]
      rw [same_end hp.old r0 heb,r2]
    rw [List.getElem?_append_right h] at hi;have hi0:i-A.length=0:=by
     rcases Nat.lt_or_ge (i-A.length) 1 with h | h
     . omega
     rw [List.getElem?_eq_none (by simpa using h)] at hi
     cases hi
    rw [hi0] at hi;simp only [List.getElem?_cons_zero,Option.some.injEq] at hi;subst hi;have hia:i=A.length:=by omega
    subst hia;refine ⟨(mem_ins _ _ _).2 (.inl rfl),hp.tag, ?_⟩;have h4:=hp.fs;rw [fz_one (by rw [hp.tag];exact he)] at h4
    simpa using h4
  . simp only [List.length_append,List.length_cons,List.length_nil] at hs ⊢;omega
  . rw [hp.taken] at hb
    rcases (mem_ins _ _ _).1 hb with rfl | hb
    . exact .inl (by simp)
    rcases P.all b hb with h | h
    . exact .inl (by simp [h])
    exact .inr h
  rw [hp.taken,insert_len hp.new,P.many];simp
theorem PutIn.node_ (P:PutIn d B n S A N) (hL:d.Loose) (O:Once d) (hA:A.length=d.ends.length) (hN:N.length < d.nodes.length) :
    (S.make (d.nodeAt N.length).1 ((d.nodeAt N.length).2.map fun k=>(ad A N k:Int))=some (0,8,S)/\n < 19+16 * (A.length+N.length)) \/
    ∃ (a:Nat) (S':Hs),S.make (d.nodeAt N.length).1 ((d.nodeAt N.length).2.map fun k=>(ad A N k:Int))=some ((a:Int),0,S')/\PutIn d B n S' A (N ++ [a]):=by
  obtain ⟨L,ch,hw,h1,hs⟩:=P.wf;obtain ⟨v1,v2,v3⟩:=hL.var _ (nodeAt_mem hN).1;have hkid:=hL.kids _ hN;have he:=isEnd_node hL hN;have hz:(d.sizes.getD (d.nodeAt N.length).1.toNat 0) ∈ S.sizes:=by
   rw [P.sizes,List.getD_eq_getElem?_getD,List.getElem?_eq_getElem (by omega)];exact List.getElem_mem _
  have hpos:=hw.fr.toFr.pos _ hz;have h3:∀ x ∈ (d.nodeAt N.length).2.map (fun k=>(ad A N k:Int)),∃ k ∈ S.taken,x=(k:Int)/\rank S.order ((d.nodeAt N.length).1+1) < rank S.order (ow S.words k):=by
   intro x hx;obtain ⟨k,hk,rfl⟩:=List.mem_map.1 hx;obtain ⟨⟨r1,r2⟩,r3⟩:=hkid k hk;have hr0:rank S.order ((d.nodeAt N.length).1+1)=index d.order (d.nodeAt N.length).1:=by
    unfold rank;rw [he,P.order,show (d.nodeAt N.length).1+1-1=(d.nodeAt N.length).1 by omega];rfl
   unfold Dia.rk at r3
   by_cases hk0:k < 0
   . have q:=P.ends _ _ (P.toPutAt.end_ hk0 (by omega));refine ⟨_,q.1,rfl, ?_⟩;rw [hr0,q.2.1];unfold rank;rw [isEnd_end hL (by omega),P.order];rw [if_pos hk0] at r3
     simpa using r3
   have q:=P.nodes _ _ (P.toPutAt.node_ hk0 (by omega));refine ⟨_,q.1,rfl, ?_⟩;rw [hr0,q.2.1];unfold rank;rw [isEnd_node hL (by omega),P.order,show (d.nodeAt k.toNat).1+1-1=(d.nodeAt k.toNat).1 by omega];rw [if_neg hk0] at r3
   simpa using r3
  have hck:S.checkNode (d.nodeAt N.length).1 ((d.nodeAt N.length).2.map fun k=>(ad A N k:Int))=some 0:=check_new hw (by rw [P.sizes];omega) (by rw [P.sizes,List.length_map];omega) h3;have hkn:∀ k ∈ (d.nodeAt N.length).2,k < N.length /\ -1-k < d.ends.length:=fun k hk=>(hkid k hk).1
  have hflat:Hs.alike ((d.nodeAt N.length).2.map fun k=>(ad A N k:Int))=false:=by
   have hf:=O.flat _ (nodeAt_mem hN).1;generalize (d.nodeAt N.length).2=l at hf hkn
   cases l with
   | nil=>simp [flat] at hf
   | cons k0 r=>
    cases hal:Hs.alike ((k0 :: r).map fun k=>(ad A N k:Int)) with
    | false=>rfl
    | true=>
     rw [<- hf]
     symm
     unfold Hs.alike at hal;unfold flat;rw [List.all_eq_true] at hal ⊢;intro k hk;have:=hal _ (List.mem_map.2 ⟨k,hk,rfl⟩);simp only [List.map_cons,List.headD_cons,beq_iff_eq] at this ⊢;have b1:=hkn k hk;have b2:=hkn k0 (by simp);exact P.inj hL O hA N.length k k0 b1.1 b1.1 b2.1 b1.2 b2.2 (by exact Int.ofNat.inj this)
  have hnode:isNode S.sizes ((d.nodeAt N.length).1+1)=true:=by
   simp [isNode,within,P.sizes];omega
  have hwz:wz S.sizes ((d.nodeAt N.length).1+1)=4+(d.sizes.getD (d.nodeAt N.length).1.toNat 0).toNat:=by
   unfold wz;rw [he,P.sizes,show (d.nodeAt N.length).1+1-1=(d.nodeAt N.length).1 by omega];rfl
  have hn:New S ((d.nodeAt N.length).1+1) ((d.nodeAt N.length).2.map fun k=>(ad A N k:Int)):=new_node hw hnode (by rw [hwz,List.length_map];omega) h3 hflat;have hmake:∀ r,S.add ((d.nodeAt N.length).1+1) ((d.nodeAt N.length).2.map fun k=>(ad A N k:Int))=some r->S.make (d.nodeAt N.length).1 ((d.nodeAt N.length).2.map fun k=>(ad A N k:Int))=some (Hs.full r):=fun r hr=>by
   unfold Hs.make;rw [hck];simp only [Option.bind_eq_bind,Option.bind_some];rw [if_neg (by simp),if_neg (by simp [hflat]),hr];rfl
  rcases add_one hw h1 hn with ⟨a,ha,q1,q2,e⟩ | ⟨hno,⟨hfull,e⟩ | ⟨a,S',L',ch',e,ha,hp,hw',h1',hsum⟩⟩
  . exfalso
    rcases P.all a ha with hm | hm
    . obtain ⟨i,hi⟩:=List.mem_iff_getElem?.1 hm;have hil:i < A.length:=by
       rcases Nat.lt_or_ge i A.length with h | h
       . exact h
       rw [List.getElem?_eq_none h] at hi
       cases hi
      obtain ⟨_,r1,r2⟩:=P.ends i a hi;have:=isEnd_end hL (i:=i) (by omega);rw [<- r1,q1,he] at this
      cases this
    obtain ⟨i,hi⟩:=List.mem_iff_getElem?.1 hm;have hil:i < N.length:=by
     rcases Nat.lt_or_ge i N.length with h | h
     . exact h
     rw [List.getElem?_eq_none h] at hi
     cases hi
    obtain ⟨_,r1,r2⟩:=P.nodes i a hi;have hk2:(d.nodeAt i).2=(d.nodeAt N.length).2:=by
     refine map_inj_on (f:=fun k=>(ad A N k:Int)) ?_ (r2.symm.trans q2);intro x hx y hy exy;have b1:=hL.kids i (by omega) x hx;have b2:=hkn y hy;exact P.inj hL O hA N.length x y (by have:=b1.1.1;omega) (by have:=b1.1.1;omega) b2.1 b1.1.2 b2.2 (by exact Int.ofNat.inj exy)
    have:d.nodeAt i=d.nodeAt N.length:=Prod.ext (by omega) hk2;have:=nodup_inj O.nodes (nodeAt_mem (i:=i) (by omega)).2 (this ▸ (nodeAt_mem hN).2);omega
  . left;rw [hmake _ e];refine ⟨by simp [Hs.full], ?_⟩;omega
  right;refine ⟨a,S',by rw [hmake _ e];simp only [Hs.full];rw [if_neg (by omega)], ?_⟩;refine ⟨⟨hp.sizes.trans P.sizes,hp.order.trans P.order,P.al,by simp;omega,.inr hA,fun i b hi=>?_,fun i b hi=>?_⟩,⟨L',ch',hw',h1', ?_⟩,fun b hb=>?_, ?_⟩
  . rw [hp.taken];obtain ⟨r0,r1,r2⟩:=P.ends i b hi;have hil:i < A.length:=by
     rcases Nat.lt_or_ge i A.length with h | h
     . exact h
     rw [List.getElem?_eq_none h] at hi
     cases hi
    have heb:isEnd (ow S.words b)=true:=by rw [r1];exact isEnd_end hL (by omega)
    refine ⟨(mem_ins _ _ _).2 (.inr r0), ?_, ?_⟩
    . rw [(hp.old b r0).1,r1]
    rw [same_end hp.old r0 heb,r2]
  . rw [hp.taken]
    rcases Nat.lt_or_ge i N.length with h | h
    . rw [List.getElem?_append_left h] at hi;obtain ⟨r0,r1,r2⟩:=P.nodes i b hi;refine ⟨(mem_ins _ _ _).2 (.inr r0), ?_, ?_⟩
      . rw [(hp.old b r0).1,r1]
      rw [hp.sizes,hp.old.fz_ r0,r2];refine List.map_congr_left fun k hk=>?_
      have:=(hL.kids i (by omega) k hk).1.1;rw [ad_right (by omega)]
    rw [List.getElem?_append_right h] at hi;have hi0:i-N.length=0:=by
     rcases Nat.lt_or_ge (i-N.length) 1 with h | h
     . omega
     rw [List.getElem?_eq_none (by simpa using h)] at hi
     cases hi
    rw [hi0] at hi;simp only [List.getElem?_cons_zero,Option.some.injEq] at hi;subst hi;have hia:i=N.length:=by omega
    subst hia;refine ⟨(mem_ins _ _ _).2 (.inl rfl),hp.tag, ?_⟩;rw [hp.sizes,hp.fs];refine List.map_congr_left fun k hk=>?_
    rw [ad_right (hkn k hk).1]
  . simp only [List.length_append,List.length_cons,List.length_nil];omega
  . rw [hp.taken] at hb
    rcases (mem_ins _ _ _).1 hb with rfl | hb
    . exact .inr (by simp)
    rcases P.all b hb with h | h
    . exact .inl h
    exact .inr (by simp [h])
  rw [hp.taken,insert_len hp.new,P.many];simp;omega
end Nd
namespace Nd
open Hp
variable {d:Dia}
structure ParD (d:Dia) (A N:List Nat) (D:Dg) (t:List Int × List Int) (a b:Nat):Prop where
 a_le:a<=d.nodes.length
 b_le:b<=d.ends.length
 nodes:D.nodes=d.nodes.take a
 ends:D.ends=d.ends.take b
 known:∀ k,d.Ref k d.nodes.length->getI (ad A N k) D.known=if -(b:Int)<=k/\k < a then some k else none
 up:KeysUp D.known
 t:t=(upto a,upto b)
def Up (d:Dia) (t:List Int × List Int):Prop:=t.1 <+: upto d.nodes.length/\t.2 <+: upto d.ends.length
theorem Up.back {t t':List Int × List Int} (h:Up d t') (j:TLe t t'):Up d t:=⟨j.1.trans h.1,j.2.trans h.2⟩
theorem ParD.put {D:Dg} {t:List Int × List Int} (P:ParD d A N D t a b) (hi:∀ k k',d.Ref k d.nodes.length->d.Ref k' d.nodes.length->ad A N k=ad A N k'->k=k') {r:Int} (hr:d.Ref r d.nodes.length) :
    ∀ k,d.Ref k d.nodes.length->getI (ad A N k) (putI (ad A N r) r D.known)=if k=r then some r else if -(b:Int)<=k/\k < a then some k else none:=by
  intro k hk;rw [getI_put P.up]
  by_cases e:k=r
  . subst e;simp
  rw [if_neg (fun e'=>e (hi k r hk hr e')),if_neg e,P.known k hk]
end Nd
namespace Nd
open Hp
theorem ad_pre {A1 N1:List Nat} (h1:A <+: A1) (h2:N <+: N1) {k:Int} (hk : -1-k < A.length) (hn:k < N.length):ad A1 N1 k=ad A N k:=by
 obtain ⟨P,rfl⟩:=h1
 obtain ⟨Q,rfl⟩:=h2
 unfold ad
 split
 . rw [List.getD_eq_getElem?_getD,List.getD_eq_getElem?_getD,List.getElem?_append_left (by omega)]
 rw [List.getD_eq_getElem?_getD,List.getD_eq_getElem?_getD,List.getElem?_append_left (by omega)]
structure DgH (S:Hs) (D:Dg) (A N:List Nat):Prop where
 up:KeysUp D.known
 al:A.length=D.ends.length
 nl:N.length=D.nodes.length
 ends:∀ (i a:Nat),A[i]? = some a->a ∈ S.taken/\isEnd (ow S.words a)=true/\D.ends[i]? = some (ow S.words a-20,ow S.words (a+4))/\getI a D.known=some (-1-(i:Int))
 nodes:∀ (j a:Nat),N[j]? = some a->a ∈ S.taken/\isEnd (ow S.words a)=false/\getI a D.known=some (j:Int) /\ ∃ xs:List Int,D.nodes[j]? = some (ow S.words a-1,xs)/\fz (ow S.words) S.sizes a=xs.map (fun k=>(ad A N k:Int)) /\ ∀ x ∈ xs,-1-x < A.length/\x < (j:Int)
 known:∀ (a:Nat) (x:Int),getI a D.known=some x->(x < 0/\A[(-1-x).toNat]? = some a) \/ (0<=x/\N[x.toNat]? = some a)
theorem DgH.start (S:Hs):DgH S ⟨[],[],[]⟩ [] [] where
 up:=List.Pairwise.nil
 al:=rfl
 nl:=rfl
 ends:=fun i a h=>by simp at h
 nodes:=fun j a h=>by simp at h
 known:=fun a x h=>by simp [getI] at h
theorem DgH.ref {D:Dg} (h:DgH S D A N) (hk:getI a D.known=some x):ad A N x=a /\ -1-x < A.length/\x < N.length:=by
 rcases h.known a x hk with ⟨h0,h1⟩ | ⟨h0,h1⟩
 . obtain ⟨hl,_⟩:=List.getElem?_eq_some_iff.1 h1;refine ⟨?_,by omega,by omega⟩;unfold ad;rw [if_pos h0,List.getD_eq_getElem?_getD,h1];rfl
 obtain ⟨hl,_⟩:=List.getElem?_eq_some_iff.1 h1
 refine ⟨?_,by omega,by omega⟩
 unfold ad
 rw [if_neg (by omega),List.getD_eq_getElem?_getD,h1]
 rfl
theorem pre_snoc_get {α:Type} {l:List α} {v u:α} (h:(l ++ [v])[i]? = some u):l[i]? = some u \/ (i=l.length/\u=v):=by
 rcases Nat.lt_trichotomy i l.length with e | e | e
 . rw [List.getElem?_append_left e] at h;exact .inl h
 . subst e;rw [List.getElem?_append_right (Nat.le_refl _)] at h;simp at h;exact .inr ⟨rfl,h.symm⟩
 rw [List.getElem?_eq_none (by simp;omega)] at h
 cases h
theorem DgH.end_ {D:Dg} (h:DgH S D A N) (ha:a ∈ S.taken) (he:isEnd (ow S.words a)=true) (hk:getI a D.known=none) :
    DgH S ⟨putI a (-((D.ends.length:Int)+1)) D.known,D.ends ++ [(ow S.words a-20,ow S.words (a+4))],D.nodes⟩ (A ++ [a]) N where
  up:=keysUp_put h.up
  al:=by simp [h.al]
  nl:=h.nl
  ends:=fun i b hb=>by
   rcases pre_snoc_get hb with hb | ⟨rfl,rfl⟩
   . obtain ⟨h1,h2,h3,h4⟩:=h.ends i b hb;have hne:b ≠ a:=fun e=>by rw [e,hk] at h4;cases h4
     refine ⟨h1,h2, ?_, ?_⟩
     . show (D.ends ++ _)[i]? = _;rw [List.getElem?_append_left (List.getElem?_eq_some_iff.1 h3).1];exact h3
     show getI b (putI _ _ _)=_;rw [getI_put h.up,if_neg hne];exact h4
   refine ⟨ha,he, ?_, ?_⟩
   . show (D.ends ++ _)[_]? = _;rw [h.al,List.getElem?_append_right (Nat.le_refl _)];simp
   show getI b (putI _ _ _)=_;rw [getI_put h.up,if_pos rfl,h.al]
   congr 1
   omega
  nodes:=fun j b hb=>by
   obtain ⟨h1,h2,h3,xs,h4,h5,h6⟩:=h.nodes j b hb;have hne:b ≠ a:=fun e=>by rw [e,hk] at h3;cases h3
   have hj:=(List.getElem?_eq_some_iff.1 hb).1;refine ⟨h1,h2, ?_,xs,h4, ?_,fun x hx=>?_⟩
   . show getI b (putI _ _ _)=_;rw [getI_put h.up,if_neg hne];exact h3
   . rw [h5];exact List.map_congr_left fun k hk=>by rw [ad_pre (List.prefix_append _ _) (List.prefix_refl _) (h6 k hk).1 (by have:=(h6 k hk).2;omega)]
   have:=h6 x hx;rw [List.length_append];omega
  known:=fun b x hb=>by
   have hb:getI b (putI a (-((D.ends.length:Int)+1)) D.known)=some x:=hb;rw [getI_put h.up] at hb
   by_cases e:b=a
   . subst e;rw [if_pos rfl] at hb
     cases hb
     left;refine ⟨by omega, ?_⟩;rw [show (-1 - -((D.ends.length:Int)+1)).toNat=A.length by rw [h.al];omega,List.getElem?_append_right (Nat.le_refl _)];simp
   rw [if_neg e] at hb
   rcases h.known b x hb with ⟨h0,h1⟩ | h1
   . exact .inl ⟨h0,by rw [List.getElem?_append_left (List.getElem?_eq_some_iff.1 h1).1];exact h1⟩
   exact .inr h1
theorem DgH.node_ {D:Dg} (h:DgH S D A N) (ha:a ∈ S.taken) (he:isEnd (ow S.words a)=false) (hk:getI a D.known=none) (hx:fz (ow S.words) S.sizes a=xs.map (fun k=>(ad A N k:Int))) (hb:∀ x ∈ xs,-1-x < A.length/\x < N.length) :
    DgH S ⟨putI a D.nodes.length D.known,D.ends,D.nodes ++ [(ow S.words a-1,xs)]⟩ A (N ++ [a]) where
  up:=keysUp_put h.up
  al:=h.al
  nl:=by simp [h.nl]
  ends:=fun i b hb=>by
   obtain ⟨h1,h2,h3,h4⟩:=h.ends i b hb;have hne:b ≠ a:=fun e=>by rw [e,hk] at h4;cases h4
   refine ⟨h1,h2,h3, ?_⟩;show getI b (putI _ _ _)=_;rw [getI_put h.up,if_neg hne];exact h4
  nodes:=fun j b hbj=>by
   rcases pre_snoc_get hbj with hbj | ⟨rfl,rfl⟩
   . obtain ⟨h1,h2,h3,ys,h4,h5,h6⟩:=h.nodes j b hbj;have hne:b ≠ a:=fun e=>by rw [e,hk] at h3;cases h3
     have hj:=(List.getElem?_eq_some_iff.1 hbj).1;refine ⟨h1,h2, ?_,ys, ?_, ?_,h6⟩
     . show getI b (putI _ _ _)=_;rw [getI_put h.up,if_neg hne];exact h3
     . show (D.nodes ++ _)[j]? = _;rw [List.getElem?_append_left (List.getElem?_eq_some_iff.1 h4).1];exact h4
     rw [h5];exact List.map_congr_left fun k hk=>by rw [ad_pre (List.prefix_refl _) (List.prefix_append _ _) (h6 k hk).1 (by have:=(h6 k hk).2;omega)]
   refine ⟨ha,he, ?_,xs, ?_, ?_,fun x hx=>?_⟩
   . show getI b (putI _ _ _)=_;rw [getI_put h.up,if_pos rfl,h.nl]
   . show (D.nodes ++ _)[_]? = _;rw [h.nl,List.getElem?_append_right (Nat.le_refl _)];simp
   . rw [hx];exact List.map_congr_left fun k hk=>by rw [ad_pre (List.prefix_refl _) (List.prefix_append _ _) (hb k hk).1 (hb k hk).2]
   have:=hb x hx;omega
  known:=fun b x hbx=>by
   have hbx:getI b (putI a (D.nodes.length:Int) D.known)=some x:=hbx;rw [getI_put h.up] at hbx
   by_cases e:b=a
   . subst e;rw [if_pos rfl] at hbx
     cases hbx
     right;refine ⟨by omega, ?_⟩;rw [Int.toNat_natCast,<- h.nl,List.getElem?_append_right (Nat.le_refl _)];simp
   rw [if_neg e] at hbx
   rcases h.known b x hbx with h1 | ⟨h0,h1⟩
   . exact .inl h1
   exact .inr ⟨h0,by rw [List.getElem?_append_left (List.getElem?_eq_some_iff.1 h1).1];exact h1⟩
def tOf (D:Dg):List Int × List Int:=(upto D.nodes.length,upto D.ends.length)
structure HTo (S:Hs) (r:Int) (D D1:Dg) (A N A1 N1:List Nat):Prop where
 ok:DgH S D1 A1 N1
 a:A <+: A1
 n:N <+: N1
 de:D.ends <+: D1.ends
 dn:D.nodes <+: D1.nodes
 mono:∀ b x,getI b D.known=some x->getI b D1.known=some x
 old:∀ b,(getI b D1.known).isSome=true->(getI b D.known).isSome=true \/ r<=rk S b
theorem HTo.refl {r:Int} {D:Dg} (h:DgH S D A N):HTo S r D D A N A N:=
 ⟨h,List.prefix_refl _,List.prefix_refl _,List.prefix_refl _,List.prefix_refl _,fun _ _ h=>h,fun _ h=>.inl h⟩
def From (S:Hs) (n:Nat):Prop:=∀ (a:Nat) (D:Dg) (A N:List Nat) (x:Int) (D1:Dg),a ∈ S.taken->DgH S D A N->S.from' n a D=some (x,D1) ->
 ∃ A1 N1,HTo S (rk S a) D D1 A N A1 N1/\getI a D1.known=some x /\ ∀ (d:Dia) (m:Nat),D1.ends <+: d.ends->D1.nodes <+: d.nodes->1<=m->x+1 < (m:Int)->d.srch m x (tOf D)=tOf D1
theorem mem_up:x ∈ upto n ↔ 0<=x/\x < n:=mem_upto
theorem refs_h {S:Hs} {n:Nat} (ih:From S n) {r:Int}:∀ (l:List Nat) (D:Dg) (A N:List Nat) (xs:List Int) (D1:Dg),(∀ k ∈ l,k ∈ S.taken/\r < rk S k)->DgH S D A N->refs (S.from' n) l D=some (xs,D1) ->
    ∃ A1 N1,HTo S (r+1) D D1 A N A1 N1/\xs.length=l.length/\(∀ (j:Nat) k x,l[j]? = some k->xs[j]? = some x->getI k D1.known=some x) /\ ∀ (d:Dia) (m:Nat),D1.ends <+: d.ends->D1.nodes <+: d.nodes->1<=m->(∀ x ∈ xs,x+1 < (m:Int))->xs.foldl (fun t k=>d.srch m k t) (tOf D)=tOf D1
  | [],D,A,N,xs,D1,_,h,e=>by
   simp only [refs,Option.some.injEq,Prod.mk.injEq] at e;obtain ⟨rfl,rfl⟩:=e;exact ⟨A,N,HTo.refl h,rfl,fun j k x hk=>by simp at hk,fun d m _ _ _ _=>rfl⟩
  | k :: l,D,A,N,xs,D1,hl,h,e=>by
   simp only [refs,Option.bind_eq_bind,Option.bind_eq_some_iff,Prod.exists,Option.some.injEq,Prod.mk.injEq] at e;obtain ⟨x,D2,e1,ys,D3,e2,rfl,rfl⟩:=e;obtain ⟨A2,N2,h2,hx,s2⟩:=ih k D A N x D2 (hl k (by simp)).1 h e1;obtain ⟨A3,N3,h3,hl3,hy,s3⟩:=refs_h ih l D2 A2 N2 ys D3 (fun k hk=>hl k (by simp [hk])) h2.ok e2;have hkr:=(hl k (by simp)).2;refine ⟨A3,N3,⟨h3.ok,h2.a.trans h3.a,h2.n.trans h3.n,h2.de.trans h3.de,h2.dn.trans h3.dn,fun b x hb=>h3.mono b x (h2.mono b x hb),fun b hb=>?_⟩,by simp [hl3],fun j k' x' hk' hx'=>?_,fun d m hd1 hd2 hm hxs=>?_⟩
   . rcases h3.old b hb with hb | hb
     . rcases h2.old b hb with hb | hb
       . exact .inl hb
       exact .inr (by omega)
     exact .inr hb
   . cases j with
     | zero=>
      simp only [List.getElem?_cons_zero,Option.some.injEq] at hk' hx';subst hk' hx';exact h3.mono _ _ hx
     | succ j=>
      simp only [List.getElem?_cons_succ] at hk' hx';exact hy j k' x' hk' hx'
   rw [List.foldl_cons,s2 d m (h3.de.trans hd1) (h3.dn.trans hd2) hm (hxs x (by simp))];exact s3 d m hd1 hd2 hm fun y hy=>hxs y (by simp [hy])
theorem from_h {S:Hs} {B:Nat} {L:List Tl} {ch:Nat->List Nat} (hw:Wf S B L ch):∀ n,From S n
 | 0,_,_,_,_,_,_,_,_,e=>by simp [Hs.from'] at e
 | n+1,a,D,A,N,x,D1,ha,h,e=>by
  unfold Hs.from' at e
  cases hk:getI a D.known with
  | some y=>
   rw [hk] at e;simp only [Option.some.injEq,Prod.mk.injEq] at e;obtain ⟨rfl,rfl⟩:=e;refine ⟨A,N,HTo.refl h,hk,fun d m _ _ hm hx=>?_⟩;obtain ⟨_,r1,r2⟩:=h.ref hk;obtain ⟨m,rfl⟩:∃ k,m=k+1:=⟨m-1,by omega⟩
   unfold Dia.srch
   by_cases h0:y < 0
   . rw [if_pos h0,if_pos];show -1-y ∈ upto D.ends.length;rw [mem_up,<- h.al];omega
   rw [if_neg h0,if_pos];show y ∈ upto D.nodes.length;rw [mem_up,<- h.nl];omega
  | none=>
   rw [hk] at e;simp only at e
   cases he:isEnd (ow S.words a) with
   | true=>
    rw [he] at e;simp only [if_true,Option.some.injEq,Prod.mk.injEq] at e;obtain ⟨rfl,rfl⟩:=e;refine ⟨A ++ [a],N,⟨h.end_ ha he hk,List.prefix_append _ _,List.prefix_refl _,List.prefix_append _ _,List.prefix_refl _,fun b x hb=>?_,fun b hb=>?_⟩, ?_,fun d m _ _ hm _=>?_⟩
    . show getI b (putI _ _ _)=_;rw [getI_put h.up,if_neg (fun e=>by rw [e,hk] at hb;cases hb)]
      exact hb
    . have hb:(getI b (putI a (-((D.ends.length:Int)+1)) D.known)).isSome=true:=hb;rw [getI_put h.up] at hb
      by_cases e:b=a
      . subst e;exact .inr (Int.le_refl _)
      rw [if_neg e] at hb;exact .inl hb
    . show getI a (putI _ _ _)=_;rw [getI_put h.up,if_pos rfl]
    obtain ⟨m,rfl⟩:∃ k,m=k+1:=⟨m-1,by omega⟩
    unfold Dia.srch;rw [if_pos (by omega),if_neg]
    . show (upto D.nodes.length,upto D.ends.length ++ [-1 - -((D.ends.length:Int)+1)])=(upto D.nodes.length,upto (D.ends ++ _).length);rw [List.length_append,List.length_singleton,upto_succ,show -1 - -((D.ends.length:Int)+1)=(D.ends.length:Int) by omega]
    show ¬ -1 - -((D.ends.length:Int)+1) ∈ upto D.ends.length
    rw [mem_up];omega
   | false=>
    rw [he] at e;simp only [Bool.false_eq_true,if_false,Option.bind_eq_bind,Option.bind_eq_some_iff,Prod.exists,Option.some.injEq,Prod.mk.injEq] at e;obtain ⟨xs,D2,e1,rfl,rfl⟩:=e;have hkz:kz (ow S.words) S.sizes a=fz (ow S.words) S.sizes a:=by unfold kz;rw [he];rfl
    have hkid:∀ y ∈ fz (ow S.words) S.sizes a,∃ b ∈ S.taken,y=(b:Int)/\rank S.order (ow S.words a) < rank S.order (ow S.words b):=fun y hy=>hw.cells.kids a ha y (by rw [hkz];exact hy)
    obtain ⟨A2,N2,h2,hl2,hy2,s2⟩:=refs_h (from_h hw n) (r:=rk S a) _ D A N xs D2 (fun k hk=>by
     obtain ⟨y,hy,rfl⟩:=List.mem_map.1 hk;obtain ⟨b,hb,rfl,hr⟩:=hkid y hy;rw [Int.toNat_natCast];exact ⟨hb,hr⟩) h e1
    have hk2:getI a D2.known=none:=by
     cases hh:getI a D2.known with
     | none=>rfl
     | some v=>
      have:=h2.old a (by rw [hh];rfl);rw [hk] at this
      rcases this with e | e
      . cases e
      omega
    rw [List.length_map] at hl2;have hget:∀ (j:Nat) y,(fz (ow S.words) S.sizes a)[j]? = some y -> ∃ x,xs[j]? = some x/\getI y.toNat D2.known=some x:=fun j y hy=>by
     have hj:=(List.getElem?_eq_some_iff.1 hy).1;refine ⟨xs[j]'(by omega),List.getElem?_eq_getElem _,hy2 j y.toNat _ (by rw [List.getElem?_map,hy];rfl) (List.getElem?_eq_getElem _)⟩
    have hfz:fz (ow S.words) S.sizes a=xs.map (fun k=>(ad A2 N2 k:Int)):=by
     apply List.ext_getElem?;intro j
     rcases Nat.lt_or_ge j (fz (ow S.words) S.sizes a).length with hj | hj
     . have hy:=List.getElem?_eq_getElem hj;obtain ⟨x,h3,h4⟩:=hget j _ hy;rw [hy,List.getElem?_map,h3,Option.map_some,(h2.ok.ref h4).1];obtain ⟨b,hb,e,_⟩:=hkid _ (List.mem_of_getElem? hy);rw [e,Int.toNat_natCast]
     rw [List.getElem?_eq_none hj,List.getElem?_eq_none (by rw [List.length_map];omega)]
    have hbd:∀ x ∈ xs,-1-x < A2.length/\x < N2.length:=fun x hx=>by
     obtain ⟨j,hj⟩:=List.mem_iff_getElem?.1 hx;have hjl:=(List.getElem?_eq_some_iff.1 hj).1;obtain ⟨x',h3,h4⟩:=hget j _ (List.getElem?_eq_getElem (by omega));rw [hj] at h3
     cases h3
     exact (h2.ok.ref h4).2
    have hNl:=h2.ok.nl;refine ⟨A2,N2 ++ [a],⟨h2.ok.node_ ha he hk2 hfz hbd,h2.a,h2.n.trans (List.prefix_append _ _),h2.de,h2.dn.trans (List.prefix_append _ _),fun b x hb=>?_,fun b hb=>?_⟩, ?_,fun d m hd1 hd2 hm hx=>?_⟩
    . have:=h2.mono b x hb;show getI b (putI _ _ _)=_;rw [getI_put h2.ok.up,if_neg (fun e=>by rw [e,hk2] at this;cases this)]
      exact this
    . have hb:(getI b (putI a (D2.nodes.length:Int) D2.known)).isSome=true:=hb;rw [getI_put h2.ok.up] at hb
      by_cases e:b=a
      . subst e;exact .inr (Int.le_refl _)
      rw [if_neg e] at hb
      rcases h2.old b hb with hb | hb
      . exact .inl hb
      exact .inr (by omega)
    . show getI a (putI _ _ _)=_;rw [getI_put h2.ok.up,if_pos rfl]
    obtain ⟨m,rfl⟩:∃ k,m=k+1:=⟨m-1,by omega⟩
    have hle:=h2.dn.length_le;have hat:d.nodeAt D2.nodes.length=(ow S.words a-1,xs):=by
     unfold Dia.nodeAt;obtain ⟨Q,hQ⟩:=hd2;rw [<- hQ];show ((D2.nodes ++ [_]) ++ Q)[_]?.getD _=_;rw [List.append_assoc,List.getElem?_append_right (Nat.le_refl _)];simp
    unfold Dia.srch;rw [if_neg (by omega),if_neg,Int.toNat_natCast,hat]
    . have hf:=s2 d m hd1 ((List.prefix_append _ _).trans hd2) (by omega) (fun y hy=>by have:=hbd y hy;omega);rw [hf];show (upto D2.nodes.length ++ [(D2.nodes.length:Int)],upto D2.ends.length)=(upto (D2.nodes ++ [_]).length,upto D2.ends.length);rw [List.length_append,List.length_singleton,upto_succ]
    show ¬ (D2.nodes.length:Int) ∈ upto D.nodes.length
    rw [mem_up];omega
end Nd
namespace Nd
open Hp
def dia (S:Hs) (x:Int) (D:Dg):Dia:=⟨S.sizes,S.order,D.ends,D.nodes,x⟩
section
variable {S:Hs} {B:Nat} {L:List Tl} {ch:Nat->List Nat} {D:Dg} {A N:List Nat} {x:Int}
theorem DgH.endAt_ (h:DgH S D A N) {k:Int} (h0:k < 0) (h1 : -1-k < A.length):ad A N k ∈ S.taken/\isEnd (ow S.words (ad A N k))=true/\(dia S x D).endAt (-1-k).toNat=(ow S.words (ad A N k)-20,ow S.words (ad A N k+4))/\getI (ad A N k) D.known=some k:=by
 have hl:(-1-k).toNat < A.length:=by omega
 have e:ad A N k=A[(-1-k).toNat]:=by
  unfold ad;rw [if_pos h0,List.getD_eq_getElem?_getD,List.getElem?_eq_getElem hl];rfl
 obtain ⟨a1,a2,a3,a4⟩:=h.ends _ _ (List.getElem?_eq_getElem hl)
 rw [e]
 refine ⟨a1,a2, ?_, ?_⟩
 . unfold Dia.endAt;show (D.ends[_]?).getD _=_;rw [a3];rfl
 rw [a4]
 congr 1
 omega
theorem DgH.nodeAt_ (h:DgH S D A N) {k:Int} (h0:0<=k) (h1:k < N.length):ad A N k ∈ S.taken/\isEnd (ow S.words (ad A N k))=false/\getI (ad A N k) D.known=some k/\((dia S x D).nodeAt k.toNat).1=ow S.words (ad A N k)-1 /\
    fz (ow S.words) S.sizes (ad A N k)=((dia S x D).nodeAt k.toNat).2.map (fun k=>(ad A N k:Int)) /\ ∀ y ∈ ((dia S x D).nodeAt k.toNat).2,-1-y < A.length/\y < k:=by
  have hl:k.toNat < N.length:=by omega
  have e:ad A N k=N[k.toNat]:=by
   unfold ad;rw [if_neg (by omega),List.getD_eq_getElem?_getD,List.getElem?_eq_getElem hl];rfl
  obtain ⟨a1,a2,a3,xs,a4,a5,a6⟩:=h.nodes _ _ (List.getElem?_eq_getElem hl);have hn:(dia S x D).nodeAt k.toNat=(ow S.words N[k.toNat]-1,xs):=by
   unfold Dia.nodeAt;show (D.nodes[_]?).getD _=_;rw [a4];rfl
  rw [e,hn];refine ⟨a1,a2, ?_,rfl,a5,fun y hy=>?_⟩
  . rw [a3]
    congr 1
    omega
  have:=a6 y hy;omega
theorem DgH.rank_ (hw:Wf S B L ch) (h:DgH S D A N) {k:Int} (h1 : -1-k < A.length) (h2:k < N.length):rankO (dia S x D) k=rank S.order (ow S.words (ad A N k)):=by
 unfold rankO
 by_cases h0:k < 0
 . rw [if_pos h0];unfold rank;rw [(h.endAt_ (x:=x) h0 h1).2.1];rfl
 obtain ⟨a1,a2,a3,a4,_,_⟩:=h.nodeAt_ (x:=x) (by omega) h2
 rw [if_neg h0,a4,rank_node (z:=S.sizes) a2]
 obtain ⟨i,hi,_,_⟩:=index_spec (order_mem hw.fr (isNode_of (hw.cells.tags _ a1) a2))
 show (if index S.order _ < 0 then _ else index S.order _)=_
 rw [hi,if_neg (by omega)]
theorem fz_len (hw:Wf S B L ch) (ha:a ∈ S.taken) (he:isEnd (ow S.words a)=false):((fz (ow S.words) S.sizes a).length:Int)=S.sizes.getD (ow S.words a-1).toNat 0:=by
 have hn:=isNode_of (hw.cells.tags _ ha) he
 simp only [isNode,within,Bool.and_eq_true,decide_eq_true_eq] at hn
 have hl:(ow S.words a-1).toNat < S.sizes.length:=by omega
 have hp:=hw.fr.pos _ (List.getElem_mem hl)
 have e:S.sizes.getD (ow S.words a-1).toNat 0=S.sizes[(ow S.words a-1).toNat]:=by
  rw [List.getD_eq_getElem?_getD,List.getElem?_eq_getElem hl];rfl
 rw [fz_length]
 unfold wz
 rw [he,e]
 simp only [Bool.false_eq_true,if_false]
 omega
theorem DgH.loose (hw:Wf S B L ch) (h:DgH S D A N) (hx:getI a D.known=some x):looseB (dia S x D)=true:=by
 obtain ⟨_,r1,r2⟩:=h.ref hx
 unfold looseB
 simp only [Bool.and_eq_true,List.all_eq_true,List.mem_range]
 refine ⟨⟨fun e he=>?_,fun i hi=>?_⟩,refB_iff.2 ⟨by show x < (D.nodes.length:Int);rw [<- h.nl];exact r2,by show -1-x < (D.ends.length:Int);rw [<- h.al];exact r1⟩⟩
 . obtain ⟨i,hi⟩:=List.mem_iff_getElem?.1 he;have hi:D.ends[i]? = some e:=hi;have hl:i < A.length:=by rw [h.al];exact (List.getElem?_eq_some_iff.1 hi).1
   obtain ⟨a1,a2,a3,a4⟩:=h.ends _ _ (List.getElem?_eq_getElem hl);rw [hi] at a3
   cases a3
   have hc:=hw.cells.ends _ a1 a2;simp only [isEnd,within,Bool.and_eq_true,decide_eq_true_eq] at a2;unfold cellOk
   by_cases h0:ow S.words A[i]-20=0
   . rw [if_pos h0];simp only [within,Bool.and_eq_true,decide_eq_true_eq];omega
   rw [if_neg h0];simp only [Bool.and_eq_true,decide_eq_true_eq];exact ⟨by omega,hc.2.2 (by omega)⟩
 have hi:i < D.nodes.length:=hi
 rw [<- h.nl] at hi
 obtain ⟨a1,a2,a3,a4,a5,a6⟩:=h.nodeAt_ (x:=x) (k:=(i:Int)) (by omega) (by omega)
 rw [Int.toNat_natCast] at a4 a5 a6
 have hn:=isNode_of (hw.cells.tags _ a1) a2
 simp only [isNode,within,Bool.and_eq_true,decide_eq_true_eq] at hn
 have hfl:=fz_len hw a1 a2
 rw [a5,List.length_map] at hfl
 unfold branchB
 simp only [Bool.and_eq_true,within,decide_eq_true_eq,List.all_eq_true]
 rw [a4]
 have hz:(dia S x D).sizes=S.sizes:=rfl
 rw [hz]
 refine ⟨⟨by omega,hfl⟩,fun k hk=>?_⟩
 obtain ⟨b1,b2⟩:=a6 k hk
 unfold kidB
 simp only [Bool.and_eq_true,decide_eq_true_eq]
 refine ⟨refB_iff.2 ⟨b2,by show -1-k < (D.ends.length:Int);rw [<- h.al];exact b1⟩, ?_⟩
 rw [h.rank_ hw (k:=k) b1 (by omega),h.rank_ hw (k:=(i:Int)) (by omega) (by omega)]
 have hkz:kz (ow S.words) S.sizes (ad A N (i:Int))=fz (ow S.words) S.sizes (ad A N (i:Int)):=by unfold kz;rw [a2];rfl
 obtain ⟨b,hb,e,hr⟩:=hw.cells.kids _ a1 (ad A N k:Int) (by rw [hkz,a5];exact List.mem_map.2 ⟨k,hk,rfl⟩)
 have:ad A N k=b:=by omega
 rw [this]
 omega
theorem fz_end {f:Nat->Int} (h:isEnd (f a)=true):fz f z a=[f (a+4)]:=by
 have e:wz z (f a)=5:=by unfold wz;rw [h];rfl
 unfold fz
 rw [e]
 simp [cut]
theorem DgH.is (hw:Wf S B L ch) (h:DgH S D A N) (hs:(dia S x D).srch (D.nodes.length+1) x ([],[])=(upto D.nodes.length,upto D.ends.length)):(dia S x D).Is where
 ends:=by
  rw [List.nodup_iff_pairwise_ne,List.pairwise_iff_getElem];intro i j hi hj hij e;have hi:i < D.ends.length:=hi;have hj:j < D.ends.length:=hj;rw [<- h.al] at hi hj;obtain ⟨a1,a2,a3,a4⟩:=h.ends _ _ (List.getElem?_eq_getElem hi);obtain ⟨b1,b2,b3,b4⟩:=h.ends _ _ (List.getElem?_eq_getElem hj);have e3:D.ends[i]? = D.ends[j]? := by
   rw [List.getElem?_eq_getElem (by rw [<- h.al];exact hi),List.getElem?_eq_getElem (by rw [<- h.al];exact hj)];exact congrArg some e
  rw [a3,b3] at e3;simp only [Option.some.injEq,Prod.mk.injEq] at e3;have:=hw.cells.one _ a1 _ b1 (by omega) (by rw [fz_end a2,fz_end b2,e3.2]);rw [this,b4] at a4;have:=Option.some.inj a4;omega
 nodes:=by
  rw [List.nodup_iff_pairwise_ne,List.pairwise_iff_getElem];intro i j hi hj hij e;have hi:i < D.nodes.length:=hi;have hj:j < D.nodes.length:=hj;rw [<- h.nl] at hi hj;obtain ⟨a1,a2,a3,xs,a4,a5,_⟩:=h.nodes _ _ (List.getElem?_eq_getElem hi);obtain ⟨b1,b2,b3,ys,b4,b5,_⟩:=h.nodes _ _ (List.getElem?_eq_getElem hj);have e3:D.nodes[i]? = D.nodes[j]? := by
   rw [List.getElem?_eq_getElem (by rw [<- h.nl];exact hi),List.getElem?_eq_getElem (by rw [<- h.nl];exact hj)];exact congrArg some e
  rw [a4,b4] at e3;simp only [Option.some.injEq,Prod.mk.injEq] at e3;have:=hw.cells.one _ a1 _ b1 (by omega) (by rw [a5,b5,e3.2]);rw [this,b3] at a3;have:=Option.some.inj a3;omega
 flat:=fun q hq=>by
  obtain ⟨i,hi⟩:=List.mem_iff_getElem?.1 hq;have hi:D.nodes[i]? = some q:=hi;have hl:i < N.length:=by rw [h.nl];exact (List.getElem?_eq_some_iff.1 hi).1
  obtain ⟨a1,a2,a3,xs,a4,a5,_⟩:=h.nodes _ _ (List.getElem?_eq_getElem hl);rw [hi] at a4
  cases a4
  cases hf:flat xs with
  | false=>rfl
  | true=>
   have hall:=flat_all hf;have:=hw.cells.flat _ a1 a2;rw [a5] at this;rw [<- this]
   symm
   cases xs with
   | nil=>rfl
   | cons y r=>
    show ((y :: r).map _).all (fun v=>v == ((y :: r).map _).headD 0)=true;rw [List.all_eq_true];intro v hv;obtain ⟨u,hu,rfl⟩:=List.mem_map.1 hv;have:=hall u hu;simp only [List.headD_cons] at this;subst this;simp
 search:=hs
end
theorem diagram_dia {ch:Nat->List Nat} (hw:Wf S B L ch) {D:Dg} (ha:a ∈ S.taken) (hd:S.diagram a=some (x,D)) :
    ∃ A N,DgH S D A N/\ad A N x=a /\ -1-x < A.length/\x < N.length/\looseB (dia S x D)=true/\(dia S x D).Is:=by
  obtain ⟨A,N,h1,h2,h3⟩:=from_h hw (S.order.length+2) a ⟨[],[],[]⟩ [] [] x D ha (DgH.start S) hd;have hr:=h1.ok.ref h2;refine ⟨A,N,h1.ok,hr.1,hr.2.1,hr.2.2,h1.ok.loose hw h2,h1.ok.is hw ?_⟩;have hn:=h1.ok.nl;exact h3 (dia S x D) (D.nodes.length+1) (List.prefix_refl _) (List.prefix_refl _) (by omega) (by have:=hr.2.2;omega)
theorem diagram_list {ch:Nat->List Nat} (hw:Wf S B L ch) {D:Dg} (h1:looseB (dia S x D)=true) (h2:(dia S x D).Is) {l:List (Int × Int)} (hl:∀ n:Nat,(n:Int) < prod S.sizes->l.getD n (0,0)=(dia S x D).cellAt (nth S.sizes n)) :
    ofD_ S.sizes S.order (fun p=>l.getD (num S.sizes p).toNat (0,0))=dia S x D:=by
  have h:=ofP_list (d:=dia S x D) hw.fr h1 hl;have hc:=(clean_iff (looseB_low h1).1 (looseB_low h1).2).2 h2;exact dia_ext rfl rfl (h.2.1.trans hc.2.1) (h.2.2.trans hc.2.2) (h.1.trans hc.1)
end Nd
open Go.RowKit Go.Maps
set_option maxRecDepth 100000 in
set_option maxHeartbeats 8000000 in
theorem rValue {ch:Nat->List Nat} (h:RAt w r S) (hw:Hp.Wf S B L ch) {D:Hp.Dg} (hd:Nd.DgH S D A N) (hl:looseB (Nd.dia S x D)=true) (h1 : -1-x < A.length) (h2:x < N.length) {qc:Nat} {p:List Int} (hq:SliceAt w q qc p) (hp:InPl S.sizes p) :
    Calls Tryz.prog 90 #[.pointer (some ⟨r.rb,0,none⟩),.int .i64 (Nd.ad A N x:Nat),.slice q p.length qc] w fun e w'=>e = .returned (.agg #[.int .u8 ((Nd.dia S x D).cellAt p).1,.int .i64 ((Nd.dia S x D).cellAt p).2])/\Ext w w':=by
  have H:=hZ h;have HW:=hZ hw;have HD:=hZ hd;have HP:=hZ hp;have HQ:=hZ hq;have FIT0:=hZ (fit_root (d:=Nd.dia S x D) hw.fr hl);have NODE:=hZ (fun b (hb:b ∈ S.taken) W (hW:Ext w W)=>rIsNode (h.ext hW) (a:=b) (by have:=hw.part hb;omega));have FLD:=hZ (fun b (hb:b ∈ S.taken) W (hW:Ext w W)=>rField (h.ext hW) hw hb);have FAT:=hZ (fun b (hb:b ∈ S.taken) W (hW:Ext w W)=>fieldAt (h.ext hW) hw hb);have ATE:=hZ (fun b (hb:b ∈ S.taken) (he:Hp.isEnd (Hp.ow S.words b)=true) W (hW:Ext w W)=>rAt_end (h.ext hW) hw hb he);obtain ⟨⟨cf,cn⟩,hcell⟩:∃ v,(Nd.dia S x D).cellAt p=v:=⟨_,rfl⟩
  rw [hcell];have HC:=hZ hcell;have lo:=hw.lo;have hi:=hw.hi;have hle:=h.words.le;have hcap:=h.words.cap;have hlt:=h.lt;have c2:=h.c2;have qle:=hq.le;have qcap:=hq.cap;obtain ⟨gbb,o',hp',hbb,_⟩:=h.words.cells (by omega)
  cases hp'
  obtain ⟨n,hn⟩:∃ n,S.words.length=n:=⟨_,rfl⟩
  have EN:=hZ hn;rw [hn] at lo hi hle c2;obtain ⟨m,hm⟩:∃ m,p.length=m:=⟨_,rfl⟩
  have EM:=hZ hm;rw [hm] at qle ⊢;have RF0:=hZ (And.intro h1 h2);clear h hw hd hp hq hl hcell hn hm h1 h2;obtain ⟨aa,haa⟩:∃ aa,Nd.ad A N x=aa:=⟨_,rfl⟩
  rw [haa];have HAA:=hZ haa;clear haa;go_enter Tryz.func90,Tryz.ntmps90
  go_wp2_with fail
  refine cut_world (F:=fun W=>Hid (Ext w W)/\Hid ((W.cell? ⟨w.heap.size,0,none⟩=some (.int .u8 0)/\W.cell? ⟨w.heap.size,1,none⟩=some (.int .i64 0)) /\ ∀ o,W.frozen? ⟨w.heap.size,o,none⟩=false)) ⟨hZ (exx),hZ ⟨⟨by go_simp,by go_simp⟩,fun o=>by go_simp⟩⟩ ?_;rintro w0 ⟨E0,BX⟩;obtain ⟨gb,hgb⟩:∃ x,w.heap.size=x:=⟨_,rfl⟩
  have HGB:=hZ hgb;rw [hgb] at BX ⊢;clear hgb
  go_loopg [1] S.order.length (fun g i wr=>∃ (Lo:List Int) (k:Int) (a:Nat),Lo.length<=g/\i = .int .i64 a/\Hid (Nd.ad A N k=a)/\Hid ((Nd.dia S x D).Fit S.sizes Lo k)/\Hid ((Nd.dia S x D).evL Lo k p=(cf,cn))/\Hid (-1-k < A.length/\k < N.length)/\Hid (Ext w0 wr))
  case atStart=>exact ⟨S.order,x,aa,Nat.le_refl _,rfl,HAA,FIT0,HC,RF0,hZ (Ext.refl _)⟩
  case round=>
   obtain ⟨Lo,k,a,hg,rfl,AK,FIT,EV,RF,E⟩:=hrel;have EW:=hZ (E0.out.trans E.out);have zb:r.rb < wr.heap.size:=Nat.lt_of_lt_of_le hlt EW.out.le;have zg:r.gb < wr.heap.size:=Nat.lt_of_lt_of_le hbb EW.out.le
   by_cases h0:k < 0
   . obtain ⟨a1,a2,a3,_⟩:=HD.out.endAt_ (x:=x) h0 RF.out.1;rw [AK.out] at a1 a2 a3;have hv:=EV.out;rw [Nd.Dia.ev_end h0,a3] at hv;have tt:20<=Hp.ow S.words a:=by
      unfold Hp.isEnd Hp.within at a2;simp only [Bool.and_eq_true,decide_eq_true_eq] at a2;exact a2.1
     have NDB:Hid (∀ W,Ext w W->Calls Tryz.prog 87 #[.pointer (some ⟨r.rb,0,none⟩),.int .i64 a] W fun e w'=>e = .returned (.bool false)/\Ext W w'):=hZ (fun W hW=>by
      have:=NODE.out a a1 W hW;rw [decide_eq_false (by omega:¬ Hp.ow S.words a < 20)] at this;exact this)
     have ATB:Hid (∀ W,Ext w W->Calls Tryz.prog 28 #[.pointer (some ⟨r.rb,0,none⟩),.int .i64 a] W fun e w'=>e = .returned (.tuple #[.agg #[.int .i64 (-1),.slice none 0 0],.agg #[.int .u8 cf,.int .i64 cn]])/\Ext W w'):=hZ (fun W hW=>by
      have:=ATE.out a a1 a2 W hW;have e1:Hp.ow S.words a-20=cf:=congrArg Prod.fst hv;have e2:Hp.ow S.words (a+4)=cn:=congrArg Prod.snd hv;rw [e1,e2] at this;exact this)
     clear a1 a2 a3 hv tt h0;obtain ⟨⟨x0,x1⟩,xz⟩:=BX.out;have zbx:=cell_lt x0
     go_upto_region 4 with (first
      | (go_at_call 87;refine (NDB.out _ EW.out).mono ?_;rintro e w2 ⟨rfl,hE2⟩)
      | (go_at_call 28;refine (ATB.out _ (EW.out.trans hE2)).mono ?_;rintro e w3 ⟨rfl,hE3⟩))
     have y0:=((E.out.trans (hE2.trans hE3)).cell zbx 0).trans x0;have y1:=((E.out.trans (hE2.trans hE3)).cell zbx 1).trans x1;have yz:=fun o=>((E.out.trans (hE2.trans hE3)).frozen zbx o).trans (xz o)
     have y0z:=yz 0;have y1z:=yz 1;have zy:=cell_lt y0;have f0:((((w3.setCell ⟨gb,0,none⟩ (.int .u8 cf)).setCell ⟨gb,1,none⟩ (.int .i64 cn)).alloc (.cells #[.int .i64 (-1),.slice none 0 0] 41)).alloc (.cells #[.int .u8 cf,.int .i64 cn] 43)).cell? ⟨gb,0,none⟩=some (.int .u8 cf):=by simp [go_sem,y0,zy]
     have f1:((((w3.setCell ⟨gb,0,none⟩ (.int .u8 cf)).setCell ⟨gb,1,none⟩ (.int .i64 cn)).alloc (.cells #[.int .i64 (-1),.slice none 0 0] 41)).alloc (.cells #[.int .u8 cf,.int .i64 cn] 43)).cell? ⟨gb,1,none⟩=some (.int .i64 cn):=by simp [go_sem,y1,zy]
     have EF:Ext w ((((w3.setCell ⟨gb,0,none⟩ (.int .u8 cf)).setCell ⟨gb,1,none⟩ (.int .i64 cn)).alloc (.cells #[.int .i64 (-1),.slice none 0 0] 41)).alloc (.cells #[.int .u8 cf,.int .i64 cn] 43)):=Ext.alloc (Ext.alloc (Ext.setCell (Ext.setCell (EW.out.trans (hE2.trans hE3)) (by rw [HGB.out];exact Nat.le_refl _) _) (by rw [HGB.out];exact Nat.le_refl _) _) _) _
     go_wp2_with fail
     refine bodyPost_ret (v:=.agg #[.int .u8 cf,.int .i64 cn]) (by simp [results,Tryz.results90,go_sem, *]) rfl ?_;exact ⟨rfl,EF⟩
   obtain ⟨a1,a2,a3,a4,a5,a6⟩:=HD.out.nodeAt_ (x:=x) (by omega) RF.out.2;rw [AK.out] at a1 a2 a4 a5;obtain ⟨Lo',l1,l2,l3⟩:=Nd.Dia.ev_step (d:=Nd.dia S x D) (z:=S.sizes) (show 0<=k by omega) p FIT.out;obtain ⟨⟨cv,kids⟩,hq0⟩:∃ q0,(Nd.dia S x D).nodeAt k.toNat=q0:=⟨_,rfl⟩
   rw [hq0] at a4 a5 a6 l2 l3;simp only at a4 a5 a6 l2 l3;have pa:=HW.out.part a1;rw [EN.out] at pa;have hnd:=Hp.isNode_of (HW.out.cells.tags _ a1) a2;have fw6:=HW.out.fr.few;simp only [Hp.isNode,Hp.within,Bool.and_eq_true,decide_eq_true_eq] at hnd;obtain ⟨ci,hci⟩:∃ ci:Nat,Hp.ow S.words a=(ci:Int)+1:=⟨(Hp.ow S.words a-1).toNat,by omega⟩
   have hcv:cv=(ci:Int):=by omega
   subst hcv;have hcl:ci < S.sizes.length:=by omega
   have hpl:=HP.out.len;have hml:=EM.out;have hin:=(inPl_iff.1 HP.out).2 ci hcl;have hfl:=Nd.fz_len HW.out a1 a2;have e1:(Hp.ow S.words a-1).toNat=ci:=by omega
   rw [e1] at hfl;obtain ⟨gg,hgg⟩:∃ g:Nat,p.getD ci 0=(g:Int):=⟨(p.getD ci 0).toNat,by omega⟩
   have hpc:Hp.rd p ci=some (gg:Int):=by
    rw [List.getD_eq_getElem?_getD,List.getElem?_eq_getElem (by omega)] at hgg;unfold Hp.rd;rw [List.getElem?_eq_getElem (by omega)];exact congrArg some hgg
   obtain ⟨fl,hfl2⟩:∃ fl,(Hp.fz (Hp.ow S.words) S.sizes a).length=fl:=⟨_,rfl⟩
   have hgfl:gg < fl:=by omega
   have hfzl:=Hp.fz_length (Hp.ow S.words) S.sizes a;rw [hfl2] at hfzl;have hkl:kids.length=fl:=by rw [<- hfl2,a5,List.length_map]
   obtain ⟨k2,hk2⟩:=get_list (E:=kids) (j:=gg) (by omega);have hfz:Hp.rd (Hp.fz (Hp.ow S.words) S.sizes a) gg=some ((Nd.ad A N k2:Nat):Int):=by
    rw [a5];unfold Hp.rd;rw [List.getElem?_map,hk2];rfl
   have hkd:kids.getD gg 0=k2:=by rw [List.getD_eq_getElem?_getD,hk2];rfl
   rw [Int.toNat_natCast,hgg,Int.toNat_natCast,hkd] at l3;have k2m:=List.mem_of_getElem? hk2;have FIT2:=hZ (l2 k2 k2m);have EV2:=hZ (l3.symm.trans EV.out);have RF2:Hid (-1-k2 < A.length/\k2 < N.length):=hZ (by have:=a6 k2 k2m;have:=RF.out.2;omega);obtain ⟨fb,fo,hfp,hfb,hfc⟩:=(FAT.out a a1 _ EW.out).cells (by rw [hfl2];omega)
   cases hfp
   have gf:=hfc gg _ hfz;obtain ⟨qb,qo,hqp,hqb,hqcc⟩:=(HQ.out.ext EW.out).cells (by rw [EM.out];omega);have gp:=hqcc ci _ hpc;have gx:=(H.out.ext EW.out).get (j:=a) (by rw [EN.out];omega);rw [hci] at gx;have NDB:Hid (∀ W,Ext w W->Calls Tryz.prog 87 #[.pointer (some ⟨r.rb,0,none⟩),.int .i64 a] W fun e w'=>e = .returned (.bool true)/\Ext W w'):=hZ (fun W hW=>by
    have:=NODE.out a a1 W hW;rw [decide_eq_true (by omega:Hp.ow S.words a < 20)] at this;exact this)
   have FLB:Hid (∀ W,Ext w W->Calls Tryz.prog 88 #[.pointer (some ⟨r.rb,0,none⟩),.int .i64 a] W fun e w'=>e = .returned (.slice (some ⟨r.gb,r.go+(a+4),none⟩) fl (r.wc-(a+4)))/\Ext W w'):=hZ (fun W hW=>by rw [<- hfl2];exact FLD.out a a1 W hW);have hflr:fl<=r.wc-(a+4):=by rw [<- hfl2,Hp.fz_length];omega
   have an:a < n:=by omega
   have cm:ci < m:=by omega
   have c6:ci<=6:=by omega
   have s1:IntKind.i64.wrap ((ci:Int)+1-1)=(ci:Int):=by
    rw [show (ci:Int)+1-1=(ci:Int) by omega];exact IntWalk.i64_in _ (by omega)
   have s0:IntKind.i64.wrap (ci:Int)=(ci:Int):=IntWalk.i64_in _ (by omega);have an':(a:Int) < (n:Int):=by omega
   have cm':(ci:Int) < (m:Int):=by omega
   have gf':(gg:Int) < (fl:Int):=by omega
   have g1e6:gg<=100000:=by omega
   have c2w:=(EW.out.cell hlt 2).trans c2;clear a1 a2 a3 a4 a5 a6 l2 l3 hq0 pa hnd fw6 hci hcl hpl hml hin hfl hfzl e1 hgg hpc hfl2 hkl hk2 hfz hkd k2m hfc hqcc h0;subst hqp;go_upto_region 2 with (go_at_call 87;refine (NDB.out _ EW.out).mono ?_;rintro e w2 ⟨rfl,hE2⟩)
   have c22:=(hE2.cell zb 2).trans c2w;have gx2:=(hE2.cell zg (r.go+a)).trans gx;have gp2:=(hE2.cell hqb (qo+ci)).trans gp;have gf2:=(hE2.cell hfb (r.go+(a+4)+gg)).trans gf;have zb2:=Nat.lt_of_lt_of_le zb hE2.le;have zg2:=Nat.lt_of_lt_of_le zg hE2.le;have zq2:=Nat.lt_of_lt_of_le hqb hE2.le;have EW2:=hZ (EW.out.trans hE2);clear c2w gx gp gf;have pr74a:=fun u_ (h_:Ext w2 u_)=>(h_.cell zb2 2).trans c22
   have pr74b:=fun u_ (h_:Ext w2 u_)=>(h_.cell zg2 (r.go+a)).trans gx2
   have pr74c:=fun u_ (h_:Ext w2 u_)=>(h_.cell zq2 (qo+ci)).trans gp2
   have pr74d:=fun u_ (h_:Ext w2 u_)=>(h_.cell zg2 (r.go+(a+4)+gg)).trans gf2
   refine wp_region_seq (S:=fun W=>Ext w2 W) (R:=Ext) (by kernel_rfl) Ext.refl ?_ ?_
   . exact exx
   refine' tkL 0 ?_;refine' tkL 1 ?_;refine' tkR 2 (v:=.slice (some ⟨r.gb,r.go+(a+4),none⟩) fl (r.wc-(a+4))) rfl (Or.inr ⟨by rfl,88,_, ?hx2_1830, ?hy2_1830⟩) ?rest2_1830
   case hx2_1830=>(intro w hSw;go_simp;try with_reducible rfl)
   case hy2_1830=>exact fun w hE=>(FLB.out _ (EW2.out.trans hE)).mono (fun _ _ h=>⟨h.1,h.2,Ext.trans hE h.2⟩)
   refine layy ?_;refine' tkL 3 ?_;refine' tkL 4 ?_;refine' tkL 5 ?_;refine' tkL 6 ?_;refine' tkL 7 ?_;refine' tkL 8 ?_;refine' tkL 9 ?_;refine' tkL 10 ?_;refine' tkL 11 ?_;refine' tkL 12 ?_;refine' tkL 13 ?_;refine' tkL 14 ?_;refine' tkL 15 ?_;refine' tkL 16 ?_;refine wpAnyR_done (by kernel_rfl) ?_ _;intro x1 _ Ex1;clear pr74a pr74b pr74c pr74d;have E6:=hZ (E.out.trans (hE2.trans Ex1))
   go_wp2_with fail
   go_roundg Lo'.length
   case measure=>omega
   case rel=>exact ⟨Lo',k2,_,Nat.le_refl _,rfl,hZ rfl,FIT2,EV2,RF2,E6⟩
theorem prod_drop (hk:k < z.length):prod (z.drop k)=z[k] * prod (z.drop (k+1)):=by
 rw [List.drop_eq_getElem_cons hk]
 rfl
theorem nth_drop:∀ {z:List Int} {n:Int} {k:Nat},k < z.length->(nth z n).drop k=n / prod (z.drop (k+1)) % z.getD k 0 :: (nth z n).drop (k+1)
 | [],_,k,h=>by simp at h
 | a :: r,n,0,_=>by simp [nth]
 | a :: r,n,k+1,h=>by
  have:=nth_drop (z:=r) (n:=n) (k:=k) (by simpa using h)
  simpa [nth] using this
set_option maxRecDepth 100000 in
set_option maxHeartbeats 16000000 in
theorem dNth {n:Int} (hs:SliceAt w p c z) (hz:∀ s ∈ z,1<=s) (hl:z.length<=1000000) (h0:0<=n) (h1:n<=4611686018427387904) :
    Calls Tryz.prog 91 #[.slice p z.length c,.int .i64 n] w fun e w'=>∃ g,e = .returned (.slice (some ⟨g,0,none⟩) z.length z.length)/\WordsAt w' g (nth z n)/\w.heap.size<=g/\Ext w w':=by
  have HS:=hZ hs;have HZ:=hZ hz;have sle:=hs.le;have scap:=hs.cap;have hpre:∀ k,0<=n / prod (z.drop k)/\n / prod (z.drop k)<=n:=fun k=>by
   have hp:=prod_pos (z:=z.drop k) fun s hs=>hz s (List.mem_of_mem_drop hs)
   exact ⟨Int.ediv_nonneg h0 (by omega),Int.ediv_le_self _ h0⟩
  have HP:=hZ hpre;have e0:n / prod (z.drop z.length)=n:=by rw [List.drop_length];simp [prod]
  have E0:=hZ e0;have HD:Hid (∀ k,k < z.length->(nth z n).drop k=n / prod (z.drop (k+1)) % z.getD k 0 :: (nth z n).drop (k+1)):=hZ fun k hk=>nth_drop hk
  have HQ:Hid (∀ k,k < z.length->n / prod (z.drop (k+1)) / z.getD k 0=n / prod (z.drop k)):=hZ fun k hk=>by
   rw [prod_drop hk,List.getD_eq_getElem?_getD,List.getElem?_eq_getElem hk,Option.getD_some,Int.mul_comm,Int.ediv_ediv_of_nonneg (by have:=prod_pos (z:=z.drop (k+1)) fun s hs=>hz s (List.mem_of_mem_drop hs);omega)]
  have HZG:Hid (∀ k (hk:k < z.length),Hp.rd z k=some (z.getD k 0)/\1<=z.getD k 0):=hZ fun k hk=>by
   have e:z.getD k 0=z[k]:=by rw [List.getD_eq_getElem?_getD,List.getElem?_eq_getElem hk];rfl
   exact ⟨by rw [e];exact List.getElem?_eq_getElem hk,by rw [e];exact hz _ (List.getElem_mem hk)⟩
  have HL:Hid ((nth z n).length=z.length):=hZ (nth_len z n);clear hs hz hpre e0;obtain ⟨m,hm⟩:∃ m,z.length=m:=⟨_,rfl⟩
  have HM:=hZ hm;rw [hm] at sle hl ⊢;clear hm;have hmk:=run_make_row' (P:=Tryz.prog) 22 3 (.int .i64 0) 8 Tryz.underlying22 (show (Tryz.prog.info? 3).map (fun i=>(i.zero,i.size,i.bytes))=some (some (.int .i64 0),1,8) from by kernel_rfl) rfl .i64 .i64 m (by omega) (by omega);go_enter Tryz.func91,Tryz.ntmps91
  go_wp2_with fail
  clear hmk;have W0:=made_at w m w.heap.size rfl;have X0:Ext w (w.alloc (.cells (madeCells #[.int .i64 0] m) 3)):=Ext.alloc (Ext.refl _) _;refine cut_world (F:=fun W=>Hid (Ext w W)/\Hid (WordsAt W w.heap.size (List.replicate m 0))) ⟨hZ X0,hZ W0⟩ ?_;clear W0 X0;intro w1 ⟨E1,W1⟩;obtain ⟨g,hg⟩:∃ g,w.heap.size=g:=⟨_,rfl⟩
  have HG:=hZ hg;rw [hg] at W1 ⊢;clear hg
  go_loopg [6,1] m (fun g' iv nv wr=>∃ k:Nat,k<=m/\k<=g'/\iv = .int .i64 ((k:Int)-1)/\nv = .int .i64 (n / prod (z.drop k))/\Hid (WordsAt wr g (List.replicate k 0 ++ (nth z n).drop k))/\Hid (Ext w wr))
  case atStart=>exact ⟨m,Nat.le_refl _,Nat.le_refl _,rfl,by rw [<- HM.out,E0.out],hZ (by rw [List.drop_eq_nil_of_le (by rw [HL.out,HM.out];exact Nat.le_refl _),List.append_nil];exact W1.out),E1⟩
  case round=>
   obtain ⟨k,hk,hkg,rfl,rfl,WK,EK⟩:=hrel;clear W1 E1
   cases k with
   | zero=>
    have tk:decide ((((0:Nat):Int)-1) ≥ 0)=false:=by decide
    go_wp2_with fail
    go_returns;exact ⟨g,rfl,by simpa using WK.out,by rw [HG.out];exact Nat.le_refl _,EK.out⟩
   | succ k=>
    have ek:(((k+1:Nat):Int)-1)=(k:Int):=by omega
    rw [ek];have tk:decide ((k:Int) ≥ 0)=true:=dT;obtain ⟨r1,r2⟩:=HZG.out k (by rw [HM.out];omega);obtain ⟨q1,q2⟩:=HP.out (k+1);have q3:=HQ.out k (by rw [HM.out];omega);have q4:=HD.out k (by rw [HM.out];omega);generalize n / prod (z.drop (k+1))=v at q1 q2 q3 q4 ⊢;generalize z.getD k 0=s at r1 r2 q3 q4;have Q3:=hZ q3;have Q4:=hZ q4;clear q3 q4;obtain ⟨b,o,ep,hb,hc⟩:=HS.out.cells (by rw [HM.out];omega);subst ep;have gz:=(EK.out.cell hb (o+k)).trans (hc k s r1);have RW:Hid (Hp.rd (List.replicate (k+1) 0 ++ (nth z n).drop (k+1)) k=some 0):=hZ (by unfold Hp.rd;rw [List.getElem?_append_left (by simp),List.getElem?_replicate_of_lt (by omega)]);have gw:=WK.out.get RW.out;have fw:=WK.out.froz k;have ts:(s == 0)=false:=by simp;omega
    have hbg:b ≠ g:=by have:=HG.out;omega
    have hgb:g ≠ b:=fun e=>hbg e.symm
    have HW2:=hZ (WK.out.set (j:=k) (v:=v % s) (W':=List.replicate k 0 ++ (nth z n).drop k) (by
     unfold Hp.wr;rw [if_pos (by simp;omega),Q4.out,List.set_append_left _ _ (by simp),List.replicate_succ',List.set_append_right _ _ (by simp)];simp) (by have:=Int.emod_nonneg v (show s ≠ 0 by omega);omega) (by have:=Int.emod_lt_of_pos v (show 0 < s by omega);have:=(HS.out.wf s (List.mem_of_getElem? r1)).2;omega))
    clear hc hb
    go_wp2_with fail
    rw [Q3.out]
    go_roundg k
    case measure=>omega
    case rel=>exact ⟨k,by omega,Nat.le_refl _,by go_num,rfl,HW2,hZ (Ext.setCell EK.out (show w.heap.size<=g by rw [HG.out];exact Nat.le_refl _) _)⟩
theorem num_snoc:∀ {z p:List Int} {a b:Int},z.length=p.length->num (z ++ [a]) (p ++ [b])=num z p * a+b
 | [],[],a,b,_=>by simp [num,prod]
 | x :: r,y :: q,a,b,h=>by
  have ih:=num_snoc (z:=r) (p:=q) (a:=a) (b:=b) (by simpa using h);have e:prod (r ++ [a])=prod r * a:=by
   have:∀ l:List Int,prod (l ++ [a])=prod l * a:=by
    intro l
    induction l with
    | nil=>simp [prod]
    | cons x l ih=>show x * prod (l ++ [a])=x * prod l * a;rw [ih,Int.mul_assoc]
   exact this r
  simp only [List.cons_append,num,ih,e,Int.add_mul];rw [Int.mul_assoc];omega
 | [],_ :: _,_,_,h=>by simp at h
 | _ :: _,[],_,_,h=>by simp at h
theorem num_take {p:List Int} (hz:∀ s ∈ z,1<=s) (h:InPl z p):∀ k,k<=z.length->InPl (z.take k) (p.take k):=by
 intro k hk
 rw [inPl_iff] at h ⊢
 refine ⟨by rw [List.length_take,List.length_take,h.1],fun i hi=>?_⟩
 rw [List.length_take] at hi
 have:=h.2 i (by omega)
 simp only [List.getD_eq_getElem?_getD] at this ⊢
 rw [List.getElem?_take_of_lt (by omega),List.getElem?_take_of_lt (by omega)]
 exact this
theorem prod_take:∀ {z:List Int},(∀ s ∈ z,1<=s) -> ∀ k,prod (z.take k)<=prod z
 | [],_,k=>by simp
 | a :: r,h,0=>by
  have:=prod_pos h
  simpa [prod] using this
 | a :: r,h,k+1=>by
  have ih:=prod_take (z:=r) (fun s hs=>h s (by simp [hs])) k;show a * prod (r.take k)<=a * prod r;exact Int.mul_le_mul_of_nonneg_left ih (by have:=h a (by simp);omega)
set_option maxRecDepth 100000 in
set_option maxHeartbeats 16000000 in
theorem dNumber {d:Nat} {P:List Int} (hs:SliceAt w p c z) (hp:SliceAt w q d P) (hz:∀ s ∈ z,1<=s) (hin:InPl z P) (hl:z.length<=1000000) (h1:prod z<=4611686018427387904) :
    Calls Tryz.prog 174 #[.slice p z.length c,.slice q P.length d] w fun e w'=>e = .returned (.int .i64 (num z P))/\Ext w w':=by
  have HS:=hZ hs;have HP:=hZ hp;have sle:=hs.le;have scap:=hs.cap;have ple:=hp.le;have pcap:=hp.cap;have hpl:=hin.len;have HR:Hid (∀ k,k<=z.length->0<=num (z.take k) (P.take k)/\num (z.take k) (P.take k) < prod z):=hZ fun k hk=>by
   have h2:=num_rng (num_take hz hin k hk);have h3:=prod_take hz k;omega
  have HN:Hid (∀ (k:Nat) (x y:Int),z[k]? = some x->P[k]? = some y->num (z.take (k+1)) (P.take (k+1))=num (z.take k) (P.take k) * x+y):=hZ fun k x y hx hy=>by
   rw [List.take_add_one,List.take_add_one,hx,hy];exact num_snoc (by rw [List.length_take,List.length_take,hpl])
  have HY:Hid (∀ (k:Nat) (y:Int),P[k]? = some y->0<=y):=hZ fun k y hy=>by
   have hk:=(List.getElem?_eq_some_iff.1 hy).1;have:=((inPl_iff.1 hin).2 k (by omega)).1;rw [List.getD_eq_getElem?_getD,hy] at this;exact this
  have HZ:=hZ hz;have HE:Hid (num (z.take z.length) (P.take z.length)=num z P):=hZ (by rw [List.take_length,<- hpl,List.take_length]);clear hs hp hz hin;rw [hpl] at ple ⊢;obtain ⟨m,hm⟩:∃ m,z.length=m:=⟨_,rfl⟩
  have HM:=hZ hm;have HPL:=hZ (hpl.trans hm);rw [hm] at sle ple hl ⊢;clear hm hpl;go_enter Tryz.func174,Tryz.ntmps174
  go_wp2_with fail
  go_loopg [5,6] m (fun g' nv iv wr=>∃ k:Nat,k<=m/\m-k<=g'/\iv = .int .i64 k/\nv = .int .i64 (num (z.take k) (P.take k))/\Hid (Ext w wr))
  case atStart=>exact ⟨0,Nat.zero_le _,by omega,rfl,rfl,hZ (Ext.refl _)⟩
  case round=>
   obtain ⟨k,hk,hkg,rfl,rfl,EK⟩:=hrel
   by_cases hlt:k < m
   . have tk:decide ((k:Int) < (m:Int))=true:=dT;obtain ⟨s,hs⟩:=get_list (E:=z) (j:=k) (by rw [HM.out];exact hlt);obtain ⟨y,hy⟩:=get_list (E:=P) (j:=k) (by rw [HPL.out];exact hlt);have hn:=HN.out k s y hs hy;have r1:=HR.out k (by rw [HM.out];omega);have r2:=HR.out (k+1) (by rw [HM.out];omega);rw [hn] at r2;have hs1:=HZ.out s (List.mem_of_getElem? hs);generalize num (z.take k) (P.take k)=v at hn r1 r2 ⊢;have NEXT:=hZ hn;obtain ⟨b,o,ep,hb,hc⟩:=HS.out.cells (by rw [HM.out];omega);obtain ⟨b2,o2,ep2,hb2,hc2⟩:=HP.out.cells (by rw [HPL.out];omega);subst ep ep2;have gz:=(EK.out.cell hb (o+k)).trans (hc k s hs);have gp:=(EK.out.cell hb2 (o2+k)).trans (hc2 k y hy);have hy0:=HP.out.wf y (List.mem_of_getElem? hy);have hy1:=HY.out k y hy
     have wr1:IntKind.i64.wrap (v * s)=v * s:=IntWalk.i64_in _ (by
      have h5:0<=v * s:=Int.mul_nonneg r1.1 (by omega);omega)
     have wr2:IntKind.i64.wrap (v * s+y)=v * s+y:=IntWalk.i64_in _ (by omega);clear hc hc2 hn hs hy
     go_wp2_with fail
     go_quiet (fail)
     go_wp2_with fail
     rw [<- NEXT.out]
     go_roundg (m-(k+1))
     case measure=>omega
     case rel=>
      have ek:=EK.out;exact ⟨k+1,by omega,Nat.le_refl _,by go_num,rfl,hZ (exx)⟩
   have:k=m:=by omega
   subst this;have tk:decide ((k:Int) < (k:Int))=false:=dF
   go_wp2_with fail
   go_returns;exact ⟨by have h:=HE.out;rw [HM.out] at h;exact congrArg (fun v=>Ending.returned (.int .i64 v)) h,EK.out⟩
structure PtD (wb w:World) (E:List (Int × Int)) (N:List (Int × List Int)) (pe:Option Addr) (ce:Nat) (pn:Option Addr) (cn:Nat) (K:List (Nat × Nat)):Prop where
 ext:Ext wb w
 e:RowN w 2 43 pe ce (E.map endC)
 n:RowN w 2 41 pn cn (List.zipWith (fun q k=>nodeC q (some ⟨k.1,0,none⟩,k.2)) N K)
 kl:K.length=N.length
 ks:∀ (j:Nat) (q:Int × List Int) (k:Nat × Nat),N[j]? = some q->K[j]? = some k->SliceAt w (some ⟨k.1,0,none⟩) k.2 q.2
 lo:∀ b,b ∈ blk pe \/ b ∈ blk pn \/ b ∈ K.map Prod.fst->wb.heap.size<=b/\b < w.heap.size
 nd:∀ b ∈ blk pe,b ∉ blk pn/\b ∉ K.map Prod.fst
 nn:∀ b ∈ blk pn,b ∉ K.map Prod.fst
namespace PtD
variable {wb w w':World} {E:List (Int × Int)} {N:List (Int × List Int)} {pe pn:Option Addr} {ce cn:Nat} {K:List (Nat × Nat)}
theorem far (h:PtD wb w E N pe ce pn cn K) {l:List Nat} (k:But l w w') (hw:∀ b ∈ l,wb.heap.size<=b) (hl:∀ b ∈ l,b ∉ blk pe/\b ∉ blk pn/\b ∉ K.map Prod.fst):PtD wb w' E N pe ce pn cn K:=
 { h with
   ext:=k.toExt h.ext hw
   e:=h.e.but k fun b o e hm=>(hl b hm).1 (mem_blk e)
   n:=h.n.but k fun b o e hm=>(hl b hm).2.1 (mem_blk e)
   ks:=fun j q kk hq hk=>(h.ks j q kk hq hk).but k fun b o e hm=>by
    cases e
    exact (hl _ hm).2.2 (List.mem_map.2 ⟨kk,List.mem_of_getElem? hk,rfl⟩)
   lo:=fun b hb=>⟨(h.lo b hb).1,Nat.lt_of_lt_of_le (h.lo b hb).2 k.size⟩ }
theorem ext' (h:PtD wb w E N pe ce pn cn K) (k:Ext w w'):PtD wb w' E N pe ce pn cn K:=h.far (l:=[]) (But.ofExt k) (by simp) (by simp)
theorem start (w:World):PtD w w [] [] none 0 none 0 [] where
 ext:=Ext.refl _
 e:=RowN.nil _ _ _
 n:=RowN.nil _ _ _
 kl:=rfl
 ks:=fun j q k h=>by simp at h
 lo:=fun b hb=>by simp [blk] at hb
 nd:=fun b hb=>by simp [blk] at hb
 nn:=fun b hb=>by simp [blk] at hb
theorem end_ (h:PtD wb w E N pe ce pn cn K) {w2:World} {row:Option Nat} {v:Int × Int} (hR:RowN w2 2 43 (some ⟨g,0,none⟩) cap (E.map endC ++ [endC v])) (hG:w.grownBy w2 row) (hrow:∀ r,row=some r->pe=some ⟨r,0,none⟩) (hg:pe=some ⟨g,0,none⟩ \/ g=w.heap.size) (hlt:g < w2.heap.size) :
    PtD wb w2 (E ++ [v]) N (some ⟨g,0,none⟩) cap pn cn K/\But (blk pe) w w2/\(g ∈ blk pe \/ w.heap.size<=g):=by
  have k2:But (blk pe) w w2:=⟨hG.os,hG.tape,hG.output,hG.size,fun j hj hn=>hG.block j hj fun e=>hn (by rw [hrow j e.symm];simp [blk])⟩
  have hgi:g ∈ blk pe \/ w.heap.size<=g:=hg.imp (fun e=>by rw [e];simp [blk]) (fun e=>by omega);refine ⟨?_,k2,hgi⟩;have gnew:∀ b,b < w.heap.size->b ∉ blk pe->b ≠ g:=fun b hb hn e=>by
   subst e
   rcases hgi with hg | hg
   . exact hn hg
   omega
  have gblk:∀ b ∈ blk (some (⟨g,0,none⟩:Addr)),b=g:=fun b hb=>by simpa [blk] using hb
  exact
   { ext:=k2.toExt h.ext fun b hb=>(h.lo b (.inl hb)).1
     e:=by rw [List.map_append];exact hR
     n:=h.n.but k2 fun b o e hm=>(h.nd b hm).1 (mem_blk e)
     kl:=h.kl
     ks:=fun j q kk hq hk=>(h.ks j q kk hq hk).but k2 fun b o e hm=>by
      cases e
      exact (h.nd _ hm).2 (List.mem_map.2 ⟨kk,List.mem_of_getElem? hk,rfl⟩)
     lo:=fun b hb=>by
      rcases hb with hb | hb
      . have:=gblk b hb;subst this
        rcases hgi with hg | hg
        . exact ⟨(h.lo _ (.inl hg)).1,hlt⟩
        exact ⟨by have:=h.ext.le;omega,hlt⟩
      have:=h.lo b (.inr hb);exact ⟨this.1,Nat.lt_of_lt_of_le this.2 k2.size⟩
     nd:=fun b hb=>by
      have:=gblk b hb;subst this;exact ⟨fun hm=>gnew b (h.lo b (.inr (.inl hm))).2 (fun hx=>(h.nd b hx).1 hm) rfl,fun hm=>gnew b (h.lo b (.inr (.inr hm))).2 (fun hx=>(h.nd b hx).2 hm) rfl⟩
     nn:=h.nn }
theorem node_ (h:PtD wb w E N pe ce pn cn K) {w2:World} {g0 c0:Nat} {row:Option Nat} {q:Int × List Int} (hR:RowN w2 2 41 (some ⟨g,0,none⟩) cap (List.zipWith (fun q k=>nodeC q (some ⟨k.1,0,none⟩,k.2)) N K ++ [nodeC q (some ⟨g0,0,none⟩,c0)])) (hG:w.grownBy w2 row) (hrow:∀ r,row=some r->pn=some ⟨r,0,none⟩) (hg:pn=some ⟨g,0,none⟩ \/ g=w.heap.size) (hlt:g < w2.heap.size)
    (hs:SliceAt w (some ⟨g0,0,none⟩) c0 q.2) (h0:wb.heap.size<=g0/\g0 < w.heap.size) (h2:g0 ∉ blk pe/\g0 ∉ blk pn) :
    PtD wb w2 E (N ++ [q]) pe ce (some ⟨g,0,none⟩) cap (K ++ [(g0,c0)])/\But (blk pn) w w2/\(g ∈ blk pn \/ w.heap.size<=g):=by
  have k2:But (blk pn) w w2:=⟨hG.os,hG.tape,hG.output,hG.size,fun j hj hn=>hG.block j hj fun e=>hn (by rw [hrow j e.symm];simp [blk])⟩
  have hgi:g ∈ blk pn \/ w.heap.size<=g:=hg.imp (fun e=>by rw [e];simp [blk]) (fun e=>by omega);refine ⟨?_,k2,hgi⟩;have gnew:∀ b,b < w.heap.size->b ∉ blk pn->b ≠ g:=fun b hb hn e=>by
   subst e
   rcases hgi with hg | hg
   . exact hn hg
   omega
  have gblk:∀ b ∈ blk (some (⟨g,0,none⟩:Addr)),b=g:=fun b hb=>by simpa [blk] using hb
  have inK:∀ b ∈ (K ++ [(g0,c0)]).map Prod.fst,b=g0 \/ b ∈ K.map Prod.fst:=fun b hb=>by
   rw [List.map_append] at hb
   rcases List.mem_append.1 hb with hb | hb
   . exact .inr hb
   exact .inl (by simpa using hb)
  have gne:g ≠ g0:=fun e=>gnew g0 h0.2 h2.2 e.symm
  exact
   { ext:=k2.toExt h.ext fun b hb=>(h.lo b (.inr (.inl hb))).1
     e:=h.e.but k2 fun b o e hm=>(h.nd b (mem_blk e)).1 hm
     n:=by
      rw [List.zipWith_append h.kl.symm];exact hR
     kl:=by simp [h.kl]
     ks:=fun j q' kk hq hk=>by
      rcases Nat.lt_or_ge j N.length with hj | hj
      . rw [List.getElem?_append_left hj] at hq;rw [List.getElem?_append_left (by rw [h.kl];exact hj)] at hk;exact (h.ks j q' kk hq hk).but k2 fun b o e hm=>by
         cases e
         exact h.nn _ hm (List.mem_map.2 ⟨kk,List.mem_of_getElem? hk,rfl⟩)
      have hjn:j=N.length:=by
       have:=(List.getElem?_eq_some_iff.1 hq).1;simp only [List.length_append,List.length_singleton] at this;omega
      subst hjn;rw [List.getElem?_append_right (Nat.le_refl _),Nat.sub_self] at hq;rw [List.getElem?_append_right (by rw [h.kl];exact Nat.le_refl _),h.kl,Nat.sub_self] at hk;obtain rfl:q=q':=by simpa using hq
      obtain rfl:(g0,c0)=kk:=by simpa using hk
      exact hs.but k2 fun b o e hm=>by
       cases e
       exact h2.2 hm
     lo:=fun b hb=>by
      rcases hb with hb | hb | hb
      . have:=h.lo b (.inl hb);exact ⟨this.1,Nat.lt_of_lt_of_le this.2 k2.size⟩
      . have:=gblk b hb;subst this
        rcases hgi with hg | hg
        . exact ⟨(h.lo _ (.inr (.inl hg))).1,hlt⟩
        exact ⟨by have:=h.ext.le;omega,hlt⟩
      rcases inK b hb with rfl | hb
      . exact ⟨h0.1,Nat.lt_of_lt_of_le h0.2 k2.size⟩
      have:=h.lo b (.inr (.inr hb));exact ⟨this.1,Nat.lt_of_lt_of_le this.2 k2.size⟩
     nd:=fun b hb=>by
      refine ⟨fun hm=>?_,fun hm=>?_⟩
      . have:=gblk b hm;subst this;exact gnew b (h.lo b (.inl hb)).2 (h.nd b hb).1 rfl
      rcases inK b hm with rfl | hm
      . exact h2.1 hb
      exact (h.nd b hb).2 hm
     nn:=fun b hb hm=>by
      have:=gblk b hb;subst this
      rcases inK b hm with e | hm
      . exact gne e
      . exact gnew b (h.lo b (.inr (.inr hm))).2 (fun hx=>h.nn b hx hm) rfl }
end PtD
open Go.RowKit Go.Maps
def PtPost (wb w:World) (ps po:Option Addr) (cs co nz no:Nat) (rt:Int) (pe pn:Option Addr) (K:List (Nat × Nat)) (x:Int) (s:Nd.Cl) (e:Ending) (w':World):Prop:=
 ∃ (pe':Option Addr) (ce':Nat) (pn':Option Addr) (cn':Nat) (K':List (Nat × Nat)),e = .returned (.tuple #[.agg #[.slice ps nz cs,.slice po no co,.slice pe' s.ends.length ce',.slice pn' s.nodes.length cn',.int .i64 rt],.int .i64 x])/\PtD wb w' s.ends s.nodes pe' ce' pn' cn' K'/\But (blk pe ++ blk pn) w w' /\
  (∀ b,b ∈ blk pe' \/ b ∈ blk pn'->b ∈ blk pe \/ b ∈ blk pn \/ w.heap.size<=b) /\ ∀ b ∈ K'.map Prod.fst,b ∈ K.map Prod.fst \/ w.heap.size<=b
theorem Own5.set2 {W:World} {c0 c1 c2 c3 c4 d2:Value} (h:Own5 W g c0 c1 c2 c3 c4):Own5 (W.setCell ⟨g,2,none⟩ d2) g c0 c1 d2 c3 c4:=by
 obtain ⟨a0,a1,a2,a3,a4,z⟩:=h
 exact ⟨by simp [go_sem,a0],by simp [go_sem,a1],by simp [go_sem,a2],by simp [go_sem,a3],by simp [go_sem,a4],fun o=>by simp [go_sem,z]⟩
theorem neg_wrap (h:j<=100000):wrap64 (-((j:Int)+1)) = -((j:Int)+1)/\IntKind.i64.wrap (-((j:Int)+1)) = -((j:Int)+1):=⟨IntWalk.wrap64_in _ ⟨by omega,by omega⟩,IntWalk.i64_in _ ⟨by omega,by omega⟩⟩
set_option maxRecDepth 100000 in
set_option maxHeartbeats 16000000 in
theorem pt_end {E:List (Int × Int)} {N:List (Int × List Int)} {K:List (Nat × Nat)} {P:List Int} {C:List (Int × Int)} {ps po pc pp:Option Addr} {cs co cc cp:Nat} {rt:Int} (h:PtD wb w E N pe ce pn cn K) (hz:SliceAt w ps cs z) (ho:o.length<=co/\co<=9223372036854775807) (hc:RdN w 2 pc cc (C.map endC)) (hp:SliceAt w pp cp P)
    (hz1:∀ s ∈ z,1<=s) (hin:InPl z P) (hzl:z.length<=1000000) (hpr:prod z<=C.length) (hC:C.length<=1000000) (hel:E.length<=100000) :
    Calls Tryz.prog 141 #[.agg #[.slice ps z.length cs,.slice po o.length co,.slice pe E.length ce,.slice pn N.length cn,.int .i64 rt],.slice pc C.length cc,.int .i64 o.length,.slice pp P.length cp] w (PtPost wb w ps po cs co z.length o.length rt pe pn K (Nd.mEnd (C.getD (num z P).toNat (0,0)) ⟨[],E,N⟩).1 (Nd.mEnd (C.getD (num z P).toNat (0,0)) ⟨[],E,N⟩).2):=by
  have H:=hZ h;obtain ⟨n1,n2⟩:=num_rng hin;obtain ⟨k,hk⟩:∃ k:Nat,num z P=(k:Int):=⟨(num z P).toNat,by omega⟩
  have NB:=hZ (fun W (hE:Ext w W)=>dNumber (hz.ext hE) (hp.ext hE) hz1 hin hzl (by omega));rw [hk] at NB;rw [hk,Int.toNat_natCast];obtain ⟨v,hv⟩:=get_list (E:=C) (j:=k) (by omega);have hgd:C.getD k (0,0)=v:=by rw [List.getD_eq_getElem?_getD,hv];rfl
  rw [hgd];obtain ⟨bc,oc,rfl,hbc,hcc⟩:=hc.end_cells (by omega);obtain ⟨v1,v2⟩:=hcc k v hv;have cle:=hc.le;have ccap:=hc.cap;rw [List.length_map] at cle;have kC:k < C.length:=by omega
  have ele:=h.e.own;clear hcc hc hz hp hv hgd hz1 hin hk n1 n2 hpr;obtain ⟨f,n⟩:=v;simp only at v1 v2;obtain ⟨nC,hnC⟩:∃ m,C.length=m:=⟨_,rfl⟩
  rw [hnC] at hC cle kC ⊢;clear hnC;generalize z.length=nz at *;generalize P.length=nP at *;have t0:((o.length:Int) == (o.length:Int))=true:=by simp
  generalize o.length=no at *;have mixed:Tryz.prog.follows .mixedOrders=true:=by kernel_rfl
  go_enter Tryz.func141,Tryz.ntmps141;go_upto_region 3 with (go_at_call 174;refine (NB.out _ (exx)).mono ?_;rintro e w1 ⟨rfl,hb1⟩;obtain ⟨hc1,hf1,hs1⟩:=hb1.cells;have hz1_0:w.heap.size < w1.heap.size:=(by have h:=hb1.le;(try simp at h);omega);have hc1_0:=hb1.cell (b:=w.heap.size) (by first | omega | (simp;done) | (simp;omega));have hf1_0:=hb1.frozen (b:=w.heap.size) (by first | omega | (simp;done) | (simp;omega));have hz1_1:w.heap.size+1 < w1.heap.size:=(by have h:=hb1.le;(try simp at h);omega);have hc1_1:=hb1.cell (b:=w.heap.size+1) (by first | omega | (simp;done) | (simp;omega));have hf1_1:=hb1.frozen (b:=w.heap.size+1) (by first | omega | (simp;done) | (simp;omega));have X1:Ext w w1:=exx;have v1':=(X1.cell hbc (oc+k * 2)).trans v1;have v2':=(X1.cell hbc (oc+k * 2+1)).trans v2)
  have z1:w.heap.size+1 < w1.heap.size:=by have:=hb1.le;simp at this;omega
  have XW:Ext w w1:=exx;refine cut_world (F:=fun W=>Hid (Ext w W)/\Own5 W w.heap.size (.slice ps nz cs) (.slice po no co) (.slice pe E.length ce) (.slice pn N.length cn) (.int .i64 rt)/\Own5 W (w.heap.size+1) (.slice none 0 0) (.slice none 0 0) (.slice none 0 0) (.slice none 0 0) (.int .i64 0)/\(W.cell? ⟨w1.heap.size,0,none⟩=some (.int .u8 f)/\W.cell? ⟨w1.heap.size,1,none⟩=some (.int .i64 n))) ⟨hZ (exx),⟨by go_simp,by go_simp,by go_simp,by go_simp,by go_simp,fun o=>by go_simp⟩,⟨by go_simp,by go_simp,by go_simp,by go_simp,by go_simp,fun o=>by go_simp⟩,by go_simp,by go_simp⟩ ?_;rintro w2 ⟨E2,O1,O2,g1,g2⟩;have HD:=hZ (show w.heap.size < w.heap.size+1/\w.heap.size+1 < w1.heap.size from ⟨by omega,z1⟩);clear X1 v1' v2' XW hb1 v1 v2 h ele z1;obtain ⟨gb,hgb⟩:∃ x,w.heap.size=x:=⟨_,rfl⟩
  have HGB:=hZ hgb;rw [hgb] at O1 O2 HD ⊢;clear hgb;obtain ⟨gr,hgr⟩:∃ x,gb+1=x:=⟨_,rfl⟩
  rw [hgr] at O2 HD ⊢;clear hgr;generalize w1.heap.size=gv at *;have OO1:=hZ O1;have OO2:=hZ O2;have G1:=hZ g1;have G2:=hZ g2;clear O1 O2 g1 g2;obtain ⟨nE,hnE⟩:∃ m,E.length=m:=⟨_,rfl⟩
  have HNE:=hZ hnE;rw [hnE] at hel;rw [hnE] at OO1;clear hnE;have ecap:=H.out.e.rd.cap;have ele:=H.out.e.rd.le;rw [List.length_map,HNE.out] at ele
  go_wp2_with fail
  go_loopg [11] nE (fun g' iv wr=>∃ j:Nat,j<=nE/\nE-j<=g'/\iv = .int .i64 j/\Hid (Ext w2 wr)/\Aside (∀ (m:Nat) (x:Int × Int),m < j->E[m]? = some x -> ¬ (x=(f,n))))
  case atStart=>exact ⟨0,Nat.zero_le _,by omega,rfl,hZ (Ext.refl _),fun m x hm=>absurd hm (Nat.not_lt_zero _)⟩
  case round=>
   obtain ⟨j,hj,hg,rfl,EJ,HA⟩:=hrel;have E2J:=hZ (E2.out.trans EJ.out);obtain ⟨b0,b1,b2,b3,b4,bz⟩:=OO1.out.ext EJ.out;have q1:=(EJ.out.cell (cell_lt G1.out) 0).trans G1.out;have q2:=(EJ.out.cell (cell_lt G1.out) 1).trans G2.out
   by_cases hlt:j < nE
   . have tk:decide ((j:Int) < (nE:Int))=true:=dT;obtain ⟨x,hx⟩:=get_list (E:=E) (j:=j) (by rw [HNE.out];exact hlt);obtain ⟨be,oe,epe,hbe,hce⟩:=H.out.e.rd.end_cells (by rw [HNE.out];omega);obtain ⟨u1,u2⟩:=hce j x hx;have u1:=(E2J.out.cell hbe (oe+j * 2)).trans u1;have u2:=(E2J.out.cell hbe (oe+j * 2+1)).trans u2;have EQ:=fun u=>eq_val x.1 x.2 f n u
     have HX:=hZ hx;obtain ⟨x1,x2⟩:=x;simp only at u1 u2 EQ;rw [epe] at b2;have EPE:=hZ epe;clear hx hce hbe epe
     by_cases he:(x1,x2)=(f,n)
     . simp only [he,decide_true] at EQ
       cases he
       have gbr:gb ≠ gr:=by have:=HD.out;omega
       have zr:=HD.out;obtain ⟨r0,r1,r2,r3,r4,rz⟩:=OO2.out.ext EJ.out;have O6:=hZ ((Own5.set (d0:=.slice ps nz cs) (d1:=.slice po no co) (d2:=.slice (some ⟨be,oe,none⟩) nE ce) (d3:=.slice pn N.length cn) (d4:=.int .i64 rt) (OO2.out.ext EJ.out)).ext (Ext.drew (Ext.refl _)));have K6:=hZ (show Ext w (((((wr.setCell ⟨gr,0,none⟩ (.slice ps nz cs)).setCell ⟨gr,1,none⟩ (.slice po no co)).setCell ⟨gr,2,none⟩ (.slice (some ⟨be,oe,none⟩) nE ce)).setCell ⟨gr,3,none⟩ (.slice pn N.length cn)).setCell ⟨gr,4,none⟩ (.int .i64 rt)).drew from (But.toExt E2J.out (((((But.refl [gr] _).setCell (.inl (by simp)) _).setCell (.inl (by simp)) _).setCell (.inl (by simp)) _).setCell (.inl (by simp)) _ |>.setCell (.inl (by simp)) _) (fun b hb=>by rw [List.mem_singleton.1 hb];have:=HGB.out;omega)).drew)
       go_wp2_with fail
       go_region_o
       go_wp2;clear r0 r1 r2 r3 r4 rz b0 b1 b2 b3 b4 bz;obtain ⟨a0,a1,a2,a3,a4,-⟩:=O6.out;refine bodyPost_ret (v:=.tuple #[.agg #[.slice ps nz cs,.slice po no co,.slice (some ⟨be,oe,none⟩) nE ce,.slice pn N.length cn,.int .i64 rt],.int .i64 (-1-j)]) (by simp [results,Tryz.results141,go_sem, *]) rfl ?_;have hi:E.idxOf? (f,n)=some j:=List.idxOf?_eq_some_iff.2 ⟨(List.getElem?_eq_some_iff.1 HX.out).1,(List.getElem?_eq_some_iff.1 HX.out).2,fun m hm e=>HA.out m (f,n) hm (by rw [<- e];exact List.getElem?_eq_getElem _) rfl⟩;have hm:Nd.mEnd (f,n) ⟨[],E,N⟩=(-1-(j:Int),⟨[],E,N⟩):=by simp only [Nd.mEnd,hi]
       rw [hm];have P6:=H.out.ext' K6.out;exact ⟨pe,ce,pn,cn,K,by rw [EPE.out];simp only [HNE.out],P6,But.ofExt K6.out,fun b hb=>hb.imp id .inl,fun b hb=>.inl hb⟩
     simp only [he,decide_false] at EQ
     go_wp2_with fail
     go_region_o
     go_wp2
     go_roundg (nE-(j+1))
     case measure=>omega
     case rel=>
      refine ⟨j+1,by omega,by omega,by go_num,hZ EJ.out.drew,(show Aside _ from fun m x hm hx=>?_)⟩
      by_cases e:m=j
      . subst e;rw [HX.out] at hx
        cases hx
        exact he
      exact HA.out m x (by omega) hx
   have:j=nE:=by omega
   subst this;have tk:decide ((j:Int) < (j:Int))=false:=dF;have gbr:gb ≠ gr:=by have:=HD.out;omega
   go_upto_region 8 with (fail)
   have hi:E.idxOf? (f,n)=none:=List.idxOf?_eq_none_iff.2 fun hm=>by
    obtain ⟨m,hm⟩:=List.mem_iff_getElem?.1 hm;exact HA.out m (f,n) (by have:=(List.getElem?_eq_some_iff.1 hm).1;rw [HNE.out] at this;exact this) hm rfl
   have hme:Nd.mEnd (f,n) ⟨[],E,N⟩=(-1-(E.length:Int),⟨[],E ++ [(f,n)],N⟩):=by simp only [Nd.mEnd,hi]
   have HME:=hZ hme;clear hi hme;have ej:=EJ.out;have gpe:gb ∉ blk pe:=fun hm=>by have:=(H.out.lo gb (.inl hm)).2;have:=HGB.out;omega
   have gre:gr ∉ blk pe:=fun hm=>by have:=(H.out.lo gr (.inl hm)).2;have:=HGB.out;have:=HD.out;omega
   have e2j:=E2J.out;have gbl:=hZ (show gb < wr.heap.size/\w.heap.size<=wr.heap.size/\gr < wr.heap.size from ⟨cell_lt b0,E2J.out.le,by have:=cell_lt q1;have:=HD.out;omega⟩);go_upto_region 9 with (at_builtin;refine wpList_append_N rfl _ _ 46 43 rfl (z:=.agg #[.int .u8 0,.int .i64 0]) (n:=2) (bytes:=16) Tryz.underlying46 (by kernel_rfl) rfl (by decide) (by decide) (m:=j) (by rw [List.length_map,HNE.out]) rfl rfl (H.out.e.ext (exx)) (y:=endC (f,n)) rfl (cells2 (by go_simp) (by go_simp)) (by simp [endC,Value.oneCell']) (by omega) ?_;intro g cap w3 row hR hG hrow hg hlt;have Na:=H.out.ext' (show Ext w (wr.alloc (.cells #[.int .u8 f,.int .i64 n] 43)) from exx);have NB:=Na.end_ (v:=(f,n)) hR hG hrow hg hlt;have KA:But (blk pe) w w3:=(But.ofExt (show Ext w (wr.alloc (.cells #[.int .u8 f,.int .i64 n] 43)) from exx)).trans NB.2.1;have P3:=hZ NB.1;have GI:=hZ (show g ∈ blk pe \/ wr.heap.size < g from NB.2.2.imp id (fun h=>by simp at h;omega));have S1:=(OO1.out.ext (show Ext w2 (wr.alloc (.cells #[.int .u8 f,.int .i64 n] 43)) from exx)).but NB.2.1 gpe;have S2:=(OO2.out.ext (show Ext w2 (wr.alloc (.cells #[.int .u8 f,.int .i64 n] 43)) from exx)).but NB.2.1 gre;have HS1:=hZ S1;have HS2:=hZ S2;have HKA:=hZ KA;obtain ⟨b0,b1,b2,b3,b4,bz⟩:=S1;clear Na NB KA hR hG hrow hg hlt S2)
   refine cut_world (F:=fun W=>Hid (PtD wb W (E ++ [(f,n)]) N (some ⟨g,0,none⟩) cap pn cn K/\But (blk pe) w W)/\Own5 W gb (.slice ps nz cs) (.slice po no co) (.slice (some ⟨g,0,none⟩) (j+1) cap) (.slice pn N.length cn) (.int .i64 rt)/\Own5 W gr (.slice none 0 0) (.slice none 0 0) (.slice none 0 0) (.slice none 0 0) (.int .i64 0)) ⟨hZ ⟨P3.out.far (l:=[gb]) ((But.refl _ _).setCell (.inl (by simp)) _) (fun b hb=>by rw [List.mem_singleton.1 hb];have:=H.out.ext.le;have:=HGB.out;omega) (fun b hb=>by
    rw [List.mem_singleton.1 hb];have hgw:=HGB.out;refine ⟨fun hm=>?_,fun hm=>by have:=(H.out.lo gb (.inr (.inl hm))).2;omega,fun hm=>by have:=(H.out.lo gb (.inr (.inr hm))).2;omega⟩;have e:gb=g:=by simpa [blk] using hm
    rcases GI.out with h | h
    . exact gpe (e ▸ h)
    . have:=gbl.out;omega),HKA.out.setCell (.inr (by have:=HGB.out;simp only;omega)) _⟩,Own5.set2 HS1.out,HS2.out.but (l:=[gb]) ((But.refl _ _).setCell (.inl (by simp)) _) (by simp only [List.mem_singleton];exact fun e=>gbr e.symm)⟩ ?_
   clear b0 b1 b2 b3 b4 bz HS1 HS2 P3 HKA q1 q2;rintro w4 ⟨PB,O4,O4r⟩;have OB:=hZ O4;have OR:=hZ O4r;clear O4 O4r;obtain ⟨w1',w2'⟩:=neg_wrap hel;refine wp_region_stores (S:=(fun W:World=>Own5 W gb (.slice ps nz cs) (.slice po no co) (.slice (some ⟨g,0,none⟩) (j+1) cap) (.slice pn N.length cn) (.int .i64 rt))) [false,false,false,false,false,true,false] (by kernel_rfl) (by kernel_rfl) (fun _ _ d _ _ h=>by cases d <;> exact h) (by kernel_rfl) (by exact OB.out.ext (Ext.drew (Ext.refl _))) ?_;intro ops hops';have hops:=hZ hops';clear hops';have OBD:=hZ (OB.out.ext (Ext.drew (Ext.refl w4)));have ORD:=hZ (OR.out.ext (Ext.drew (Ext.refl w4)));have PBD:=hZ (show PtD wb w4.drew (E ++ [(f,n)]) N (some ⟨g,0,none⟩) cap pn cn K/\But (blk pe) w w4.drew from ⟨PB.out.1.ext' (Ext.drew (Ext.refl _)),PB.out.2.drew⟩);generalize World.drew w4=w5 at OBD ORD PBD ⊢;clear OB OR PB;refine' tkT hops ?hy0_1845 ?_
   case hy0_1845=>(intro w hSw;(obtain ⟨b0,b1,b2,b3,b4,bz⟩:=hSw);go_simp;try with_reducible rfl)
   refine layy ?_;refine' tkS hops ?_;refine' tkT hops ?hy2_1847 ?_
   case hy2_1847=>(intro w hSw;(obtain ⟨b0,b1,b2,b3,b4,bz⟩:=hSw);go_simp;try with_reducible rfl)
   refine layy ?_;refine' tkS hops ?_;refine' tkS hops ?_;have O6:=hZ (Own5.set (d0:=.slice ps nz cs) (d1:=.slice po no co) (d2:=.slice (some ⟨g,0,none⟩) (j+1) cap) (d3:=.slice pn N.length cn) (d4:=.int .i64 rt) ORD.out);have K6:=hZ (show But [gr] w5 (((((w5.setCell ⟨gr,0,none⟩ (.slice ps nz cs)).setCell ⟨gr,1,none⟩ (.slice po no co)).setCell ⟨gr,2,none⟩ (.slice (some ⟨g,0,none⟩) (j+1) cap)).setCell ⟨gr,3,none⟩ (.slice pn N.length cn)).setCell ⟨gr,4,none⟩ (.int .i64 rt)) from (((((But.refl [gr] w5).setCell (.inl (by simp)) _).setCell (.inl (by simp)) _).setCell (.inl (by simp)) _).setCell (.inl (by simp)) _).setCell (.inl (by simp)) _);obtain ⟨r0,r1,r2,r3,r4,rz⟩:=ORD.out;refine PlanS.put (((((w5.setCell ⟨gr,0,none⟩ (.slice ps nz cs)).setCell ⟨gr,1,none⟩ (.slice po no co)).setCell ⟨gr,2,none⟩ (.slice (some ⟨g,0,none⟩) (j+1) cap)).setCell ⟨gr,3,none⟩ (.slice pn N.length cn)).setCell ⟨gr,4,none⟩ (.int .i64 rt)) (by first | rfl | (rw [hops.out];rfl)) ?run5 ?hS5 ?next5
   case run5=>go_simp
   case hS5=>exact OBD.out.but K6.out (by simpa using gbr)
   refine layy ?_;clear r0 r1 r2 r3 r4 rz;refine' tkS hops ?_;refine PlanS.done ?_
   go_wp2_with fail
   obtain ⟨a0,a1,a2,a3,a4,-⟩:=O6.out;refine bodyPost_ret (v:=.tuple #[.agg #[.slice ps nz cs,.slice po no co,.slice (some ⟨g,0,none⟩) (j+1) cap,.slice pn N.length cn,.int .i64 rt],.int .i64 (-((j:Int)+1))]) (by simp [results,Tryz.results141,go_sem, *]) rfl ?_;rw [HME.out];have hgw:=HGB.out;have hdw:=HD.out;have wbw:=H.out.ext.le;have P6:=PBD.out.1.far K6.out (fun b hb=>by rw [List.mem_singleton.1 hb];omega) (fun b hb=>by
    rw [List.mem_singleton.1 hb];refine ⟨fun hm=>?_,fun hm=>by have:=(H.out.lo gr (.inr (.inl hm))).2;omega,fun hm=>by have:=(H.out.lo gr (.inr (.inr hm))).2;omega⟩;have e:gr=g:=by simpa [blk] using hm
    rcases GI.out with h | h
    . exact gre (e ▸ h)
    . have:=gbl.out;omega)
   have B6:=PBD.out.2.over K6.out (fun b hb=>.inr (by rw [List.mem_singleton.1 hb];omega));have el:(E ++ [(f,n)]).length=j+1:=by rw [List.length_append,HNE.out];rfl
   have ei : -1-(E.length:Int) = -((j:Int)+1):=by rw [HNE.out];omega
   rw [ei];refine ⟨some ⟨g,0,none⟩,cap,pn,cn,K,by simp only [el],P6,B6.mono (fun x hx=>List.mem_append_left _ hx),fun b hb=>?_,fun b hb=>.inl hb⟩
   rcases hb with hb | hb
   . have e:b=g:=by simpa [blk] using hb
     subst e
     rcases GI.out with h | h
     . exact .inl h
     exact .inr (.inr (by have:=gbl.out;omega))
   exact .inr (.inl hb)
end Go.Proofs.YtdokmmhjmclmnaaGreat
