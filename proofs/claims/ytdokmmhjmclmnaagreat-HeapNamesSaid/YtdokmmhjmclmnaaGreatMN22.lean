/-
  Part 22 of a proof: HFn33 PN3 PN6 LD1 LD2 LD3 PL17 LD5 PN5.
-/
import Derived.Test.YtdokmmhjmclmnaaGreatMN08
import Derived.Test.YtdokmmhjmclmnaaGreatMN13
import Derived.Test.YtdokmmhjmclmnaaGreatMN17
import Derived.Test.YtdokmmhjmclmnaaGreatMN19
set_option linter.unusedSimpArgs false
set_option linter.unusedVariables false
set_option linter.unusedSectionVars false
set_option linter.unnecessarySimpa false
namespace Go.Proofs.YtdokmmhjmclmnaaGreat
open Go.RowKit Go.Maps
namespace Aw
def none':Hp.Hs:=⟨[],[],[],[]⟩
def S0:Hp.Hs:=(Hp.new [2,2] [0,1] 39).getD none'
def S1:Hp.Hs:=((S0.end' (0:Nat) 5).getD (0,0,none')).2.2
def S2:Hp.Hs:=((S1.end' (0:Nat) 7).getD (0,0,none')).2.2
def S3:Hp.Hs:=((S2.make 1 [17,22]).getD (0,0,none')).2.2
def S4:Hp.Hs:=((S3.make 0 [17,27]).getD (0,0,none')).2.2
def S5:Hp.Hs:=((S4.hold 27).getD (0,none')).2
def S6:Hp.Hs:=(S5.collect.getD (0,none')).2
def L6:List (Nat × Nat):=(S6.piecesFrom S6.fuel 17).getD []
theorem e0:Hp.new [2,2] [0,1] 39=some S0:=by kernel_rfl
theorem ee:Hp.newErr [2,2] [0,1] (39:Nat)=0:=by kernel_rfl
theorem e1:S0.end' (0:Nat) 5=some (17,0,S1):=by kernel_rfl
theorem e2:S1.end' (0:Nat) 7=some (22,0,S2):=by kernel_rfl
theorem e3:S2.make 1 [17,22]=some (27,0,S3):=by kernel_rfl
theorem e4:S3.make 0 [17,27]=some (33,0,S4):=by kernel_rfl
theorem e5:S4.hold 27=some (0,S5):=by kernel_rfl
theorem e6:S5.collect=some (1,S6):=by kernel_rfl
theorem el:S6.live=some [17,22,27]:=by kernel_rfl
theorem ep:S6.piecesFrom S6.fuel 17=some L6:=by kernel_rfl
theorem eg:S6.gapSums L6=(6,6):=by kernel_rfl
theorem et:S6.taken.length=3:=by kernel_rfl
theorem ew:S4.words.length=39:=by kernel_rfl
theorem es:decide (S4.words.drop 16=lastWords)=true:=by kernel_rfl
theorem r1:Hp.rd S4.words 1=some 17:=by kernel_rfl
theorem r3:Hp.rd S4.words 3=some 22:=by kernel_rfl
theorem r11:Hp.rd S4.words 11=some 27:=by kernel_rfl
theorem r14:Hp.rd S4.words 14=some 33:=by kernel_rfl
theorem h27:S6.has (27:Nat)=true:=by kernel_rfl
theorem t27:S6.tag 27=some 2:=by kernel_rfl
theorem k27:S6.kids 27=some [17,22]:=by kernel_rfl
theorem h22:S6.has (22:Nat)=true:=by kernel_rfl
theorem t22:S6.tag 22=some 20:=by kernel_rfl
theorem n22:Hp.rd S6.words (22+4)=some 7:=by kernel_rfl
end Aw
namespace Nd
open Hp
theorem check_new {S:Hs} {B:Nat} {L:List Tl} {ch:Nat → List Nat} (h:Wf S B L ch) {c:Int} {l:List Int} (h1:0 ≤ c ∧ c < S.sizes.length) (h2:(l.length:Int)=S.sizes.getD c.toNat 0) (h3:∀ x ∈ l,∃ k ∈ S.taken,x=(k:Int) ∧ rank S.order (c+1) < rank S.order (ow S.words k)):S.checkNode c l=some 0:=by
 have hall:∀ x ∈ l,S.has x=true:=fun x hx=>by
  obtain ⟨b,hb,rfl,_⟩:=h3 x hx;exact has_of hb
 obtain ⟨b,hb1,hb2⟩:=laters_total h c l hall
 have hbt:b=true:=hb2.2 h3
 have hc:c.toNat < S.sizes.length:=by omega
 unfold Hs.checkNode
 rw [if_neg (by simp [within];omega),rd_ow hc]
 simp only [Option.bind_eq_bind,Option.bind_some]
 rw [if_neg (by have:ow S.sizes c.toNat=S.sizes.getD c.toNat 0:=rfl;omega),if_neg (by simpa using hall),hb1,hbt]
 simp
theorem fz_one {f:Nat → Int} {z:List Int} {a:Nat} (h:isEnd (f a)=true):fz f z a=[f (a+4)]:=by
 simp [fz,wz,h,cut]
theorem same_end {S S':Hs} {z:List Int} {T:List Nat} (h:Same (ow S.words) (ow S'.words) z T) {a:Nat} (ha:a ∈ T) (he:isEnd (ow S.words a)=true):ow S'.words (a+4)=ow S.words (a+4):=by
 have:=(h a ha).2 0 (by simp [wz,he])
 simpa using this
variable {d:Dia}
theorem ad_right {A N:List Nat} {x:Nat} {k:Int} (h:k < N.length):ad A (N ++ [x]) k=ad A N k:=by
 unfold ad
 by_cases hk:k < 0
 · rw [if_pos hk,if_pos hk]
 · rw [if_neg hk,if_neg hk,List.getD_eq_getElem?_getD,List.getD_eq_getElem?_getD,List.getElem?_append_left (by omega)]
theorem PutIn.end_ {B n:Nat} {S:Hs} {A:List Nat} (P:PutIn d B n S A []) (hL:d.Loose) (O:Once d) (hA:A.length < d.ends.length) :
    (S.end' (d.endAt A.length).1 (d.endAt A.length).2=some (0,8,S) ∧ n < 8+16 * A.length) ∨
    ∃ (a:Nat) (S':Hs),S.end' (d.endAt A.length).1 (d.endAt A.length).2=some ((a:Int),0,S') ∧ PutIn d B n S' (A ++ [a]) []:=by
  obtain ⟨L,ch,hw,h1,hs⟩:=P.wf;have hv:=hL.ends _ (endAt_mem hA).1;obtain ⟨v1,v2,v3,v4,v5⟩:=hv;have he:=isEnd_end hL hA;have hn:New S (20+(d.endAt A.length).1) [(d.endAt A.length).2]:=new_end v1 v2 v3 v4 v5;have hwz:wz S.sizes (20+(d.endAt A.length).1)=5:=by simp [wz,he]
  have hend:∀ r,S.add (20+(d.endAt A.length).1) [(d.endAt A.length).2]=some r → S.end' (d.endAt A.length).1 (d.endAt A.length).2=some (Hs.full r):=fun r hr=>by
   unfold Hs.end';rw [if_neg (by simp [within];omega),hr];rfl
  rcases add_one hw h1 hn with ⟨a,ha,q1,q2,e⟩ | ⟨hno,⟨hfull,e⟩ | ⟨a,S',L',ch',e,ha,hp,hw',h1',hsum⟩⟩
  · exfalso
    rcases P.all a ha with hm | hm
    · obtain ⟨i,hi⟩:=List.mem_iff_getElem?.1 hm;have hil:i < A.length:=by
       rcases Nat.lt_or_ge i A.length with h | h
       · exact h
       · rw [List.getElem?_eq_none h] at hi
         cases hi
      obtain ⟨_,r1,r2⟩:=P.ends i a hi;have he':isEnd (ow S.words a)=true:=by rw [q1];exact he
      rw [fz_one he'] at q2;simp only [List.cons.injEq,and_true] at q2;have:d.endAt i=d.endAt A.length:=Prod.ext (by omega) (by omega);have:=nodup_inj O.ends (endAt_mem (i:=i) (by omega)).2 (this ▸ (endAt_mem hA).2);omega
    · cases hm
  · left;rw [hend _ e];refine ⟨by simp [Hs.full], ?_⟩;simp only [List.length_nil] at hs;omega
  · right;have hap:0 < a:=by omega
    refine ⟨a,S',by rw [hend _ e];simp only [Hs.full];rw [if_neg (by omega)], ?_⟩;refine ⟨⟨hp.sizes.trans P.sizes,hp.order.trans P.order,by simp;omega,by simp,.inl rfl,fun i b hi=>?_,fun i b hi=>by simp at hi⟩,⟨L',ch',hw',h1', ?_⟩,fun b hb=>?_, ?_⟩
    · rw [hp.taken]
      rcases Nat.lt_or_ge i A.length with h | h
      · rw [List.getElem?_append_left h] at hi;obtain ⟨r0,r1,r2⟩:=P.ends i b hi;have heb:isEnd (ow S.words b)=true:=by rw [r1];exact isEnd_end hL (by omega)
        refine ⟨(mem_ins _ _ _).2 (.inr r0), ?_, ?_⟩
        · rw [(hp.old b r0).1,r1]
        · rw [same_end hp.old r0 heb,r2]
      · rw [List.getElem?_append_right h] at hi;have hi0:i-A.length=0:=by
         rcases Nat.lt_or_ge (i-A.length) 1 with h | h
         · omega
         · rw [List.getElem?_eq_none (by simpa using h)] at hi
           cases hi
        rw [hi0] at hi;simp only [List.getElem?_cons_zero,Option.some.injEq] at hi;subst hi;have hia:i=A.length:=by omega
        subst hia;refine ⟨(mem_ins _ _ _).2 (.inl rfl),hp.tag, ?_⟩;have h4:=hp.fs;rw [fz_one (by rw [hp.tag];exact he)] at h4
        simpa using h4
    · simp only [List.length_append,List.length_cons,List.length_nil] at hs ⊢;omega
    · rw [hp.taken] at hb
      rcases (mem_ins _ _ _).1 hb with rfl | hb
      · exact .inl (by simp)
      · rcases P.all b hb with h | h
        · exact .inl (by simp [h])
        · exact .inr h
    · rw [hp.taken,insert_len hp.new,P.many];simp
theorem PutIn.node_ {B n:Nat} {S:Hs} {A N:List Nat} (P:PutIn d B n S A N) (hL:d.Loose) (O:Once d) (hA:A.length=d.ends.length) (hN:N.length < d.nodes.length) :
    (S.make (d.nodeAt N.length).1 ((d.nodeAt N.length).2.map fun k=>(ad A N k:Int))=some (0,8,S) ∧ n < 19+16 * (A.length+N.length)) ∨
    ∃ (a:Nat) (S':Hs),S.make (d.nodeAt N.length).1 ((d.nodeAt N.length).2.map fun k=>(ad A N k:Int))=some ((a:Int),0,S') ∧ PutIn d B n S' A (N ++ [a]):=by
  obtain ⟨L,ch,hw,h1,hs⟩:=P.wf;obtain ⟨v1,v2,v3⟩:=hL.var _ (nodeAt_mem hN).1;have hkid:=hL.kids _ hN;have he:=isEnd_node hL hN;have hz:(d.sizes.getD (d.nodeAt N.length).1.toNat 0) ∈ S.sizes:=by
   rw [P.sizes,List.getD_eq_getElem?_getD,List.getElem?_eq_getElem (by omega)];exact List.getElem_mem _
  have hpos:=hw.fr.toFr.pos _ hz;have h3:∀ x ∈ (d.nodeAt N.length).2.map (fun k=>(ad A N k:Int)),∃ k ∈ S.taken,x=(k:Int) ∧ rank S.order ((d.nodeAt N.length).1+1) < rank S.order (ow S.words k):=by
   intro x hx;obtain ⟨k,hk,rfl⟩:=List.mem_map.1 hx;obtain ⟨⟨r1,r2⟩,r3⟩:=hkid k hk;have hr0:rank S.order ((d.nodeAt N.length).1+1)=index d.order (d.nodeAt N.length).1:=by
    unfold rank;rw [he,P.order,show (d.nodeAt N.length).1+1-1=(d.nodeAt N.length).1 by omega];rfl
   unfold Dia.rk at r3
   by_cases hk0:k < 0
   · have q:=P.ends _ _ (P.toPutAt.end_ hk0 (by omega));refine ⟨_,q.1,rfl, ?_⟩;rw [hr0,q.2.1];unfold rank;rw [isEnd_end hL (by omega),P.order];rw [if_pos hk0] at r3
     simpa using r3
   · have q:=P.nodes _ _ (P.toPutAt.node_ hk0 (by omega));refine ⟨_,q.1,rfl, ?_⟩;rw [hr0,q.2.1];unfold rank;rw [isEnd_node hL (by omega),P.order,show (d.nodeAt k.toNat).1+1-1=(d.nodeAt k.toNat).1 by omega];rw [if_neg hk0] at r3
     simpa using r3
  have hck:S.checkNode (d.nodeAt N.length).1 ((d.nodeAt N.length).2.map fun k=>(ad A N k:Int))=some 0:=check_new hw (by rw [P.sizes];omega) (by rw [P.sizes,List.length_map];omega) h3;have hkn:∀ k ∈ (d.nodeAt N.length).2,k < N.length ∧ -1-k < d.ends.length:=fun k hk=>(hkid k hk).1
  have hflat:Hs.alike ((d.nodeAt N.length).2.map fun k=>(ad A N k:Int))=false:=by
   have hf:=O.flat _ (nodeAt_mem hN).1;generalize (d.nodeAt N.length).2=l at hf hkn
   cases l with
   | nil=>simp [flat] at hf
   | cons k0 r=>
    cases hal:Hs.alike ((k0 :: r).map fun k=>(ad A N k:Int)) with
    | false=>rfl
    | true=>
     rw [← hf]
     symm
     unfold Hs.alike at hal;unfold flat;rw [List.all_eq_true] at hal ⊢;intro k hk;have:=hal _ (List.mem_map.2 ⟨k,hk,rfl⟩);simp only [List.map_cons,List.headD_cons,beq_iff_eq] at this ⊢;have b1:=hkn k hk;have b2:=hkn k0 (by simp);exact P.inj hL O hA N.length k k0 b1.1 b1.1 b2.1 b1.2 b2.2 (by exact Int.ofNat.inj this)
  have hnode:isNode S.sizes ((d.nodeAt N.length).1+1)=true:=by
   simp [isNode,within,P.sizes];omega
  have hwz:wz S.sizes ((d.nodeAt N.length).1+1)=4+(d.sizes.getD (d.nodeAt N.length).1.toNat 0).toNat:=by
   unfold wz;rw [he,P.sizes,show (d.nodeAt N.length).1+1-1=(d.nodeAt N.length).1 by omega];rfl
  have hn:New S ((d.nodeAt N.length).1+1) ((d.nodeAt N.length).2.map fun k=>(ad A N k:Int)):=new_node hw hnode (by rw [hwz,List.length_map];omega) h3 hflat;have hmake:∀ r,S.add ((d.nodeAt N.length).1+1) ((d.nodeAt N.length).2.map fun k=>(ad A N k:Int))=some r → S.make (d.nodeAt N.length).1 ((d.nodeAt N.length).2.map fun k=>(ad A N k:Int))=some (Hs.full r):=fun r hr=>by
   unfold Hs.make;rw [hck];simp only [Option.bind_eq_bind,Option.bind_some];rw [if_neg (by simp),if_neg (by simp [hflat]),hr];rfl
  rcases add_one hw h1 hn with ⟨a,ha,q1,q2,e⟩ | ⟨hno,⟨hfull,e⟩ | ⟨a,S',L',ch',e,ha,hp,hw',h1',hsum⟩⟩
  · exfalso
    rcases P.all a ha with hm | hm
    · obtain ⟨i,hi⟩:=List.mem_iff_getElem?.1 hm;have hil:i < A.length:=by
       rcases Nat.lt_or_ge i A.length with h | h
       · exact h
       · rw [List.getElem?_eq_none h] at hi
         cases hi
      obtain ⟨_,r1,r2⟩:=P.ends i a hi;have:=isEnd_end hL (i:=i) (by omega);rw [← r1,q1,he] at this
      cases this
    · obtain ⟨i,hi⟩:=List.mem_iff_getElem?.1 hm;have hil:i < N.length:=by
       rcases Nat.lt_or_ge i N.length with h | h
       · exact h
       · rw [List.getElem?_eq_none h] at hi
         cases hi
      obtain ⟨_,r1,r2⟩:=P.nodes i a hi;have hk2:(d.nodeAt i).2=(d.nodeAt N.length).2:=by
       refine map_inj_on (f:=fun k=>(ad A N k:Int)) ?_ (r2.symm.trans q2);intro x hx y hy exy;have b1:=hL.kids i (by omega) x hx;have b2:=hkn y hy;exact P.inj hL O hA N.length x y (by have:=b1.1.1;omega) (by have:=b1.1.1;omega) b2.1 b1.1.2 b2.2 (by exact Int.ofNat.inj exy)
      have:d.nodeAt i=d.nodeAt N.length:=Prod.ext (by omega) hk2;have:=nodup_inj O.nodes (nodeAt_mem (i:=i) (by omega)).2 (this ▸ (nodeAt_mem hN).2);omega
  · left;rw [hmake _ e];refine ⟨by simp [Hs.full], ?_⟩;omega
  · right;refine ⟨a,S',by rw [hmake _ e];simp only [Hs.full];rw [if_neg (by omega)], ?_⟩;refine ⟨⟨hp.sizes.trans P.sizes,hp.order.trans P.order,P.al,by simp;omega,.inr hA,fun i b hi=>?_,fun i b hi=>?_⟩,⟨L',ch',hw',h1', ?_⟩,fun b hb=>?_, ?_⟩
    · rw [hp.taken];obtain ⟨r0,r1,r2⟩:=P.ends i b hi;have hil:i < A.length:=by
       rcases Nat.lt_or_ge i A.length with h | h
       · exact h
       · rw [List.getElem?_eq_none h] at hi
         cases hi
      have heb:isEnd (ow S.words b)=true:=by rw [r1];exact isEnd_end hL (by omega)
      refine ⟨(mem_ins _ _ _).2 (.inr r0), ?_, ?_⟩
      · rw [(hp.old b r0).1,r1]
      · rw [same_end hp.old r0 heb,r2]
    · rw [hp.taken]
      rcases Nat.lt_or_ge i N.length with h | h
      · rw [List.getElem?_append_left h] at hi;obtain ⟨r0,r1,r2⟩:=P.nodes i b hi;refine ⟨(mem_ins _ _ _).2 (.inr r0), ?_, ?_⟩
        · rw [(hp.old b r0).1,r1]
        · rw [hp.sizes,hp.old.fz_ r0,r2];refine List.map_congr_left fun k hk=>?_
          have:=(hL.kids i (by omega) k hk).1.1;rw [ad_right (by omega)]
      · rw [List.getElem?_append_right h] at hi;have hi0:i-N.length=0:=by
         rcases Nat.lt_or_ge (i-N.length) 1 with h | h
         · omega
         · rw [List.getElem?_eq_none (by simpa using h)] at hi
           cases hi
        rw [hi0] at hi;simp only [List.getElem?_cons_zero,Option.some.injEq] at hi;subst hi;have hia:i=N.length:=by omega
        subst hia;refine ⟨(mem_ins _ _ _).2 (.inl rfl),hp.tag, ?_⟩;rw [hp.sizes,hp.fs];refine List.map_congr_left fun k hk=>?_
        rw [ad_right (hkn k hk).1]
    · simp only [List.length_append,List.length_cons,List.length_nil];omega
    · rw [hp.taken] at hb
      rcases (mem_ins _ _ _).1 hb with rfl | hb
      · exact .inr (by simp)
      · rcases P.all b hb with h | h
        · exact .inl h
        · exact .inr (by simp [h])
    · rw [hp.taken,insert_len hp.new,P.many];simp;omega
theorem drop_cons {α:Type} {l:List α} {i:Nat} {v:α} (h:l[i]? = some v):l.drop i=v :: l.drop (i+1):=by
 have hi:i < l.length:=by
  rcases Nat.lt_or_ge i l.length with h' | h'
  · exact h'
  · rw [List.getElem?_eq_none h'] at h
    cases h
 rw [List.drop_eq_getElem_cons hi]
 rw [List.getElem?_eq_getElem hi] at h
 rw [Option.some.inj h]
end Nd
namespace Nd
open Hp
end Nd
open Go.RowKit Go.Maps
structure RdN (w:World) (n:Nat) (p:Option Addr) (c:Nat) (X:List (List Value)):Prop where
 le:X.length ≤ c
 cap:c ≤ 9223372036854775807
 cells:0 < X.length → ∃ b o,p=some ⟨b,o,none⟩ ∧ b < w.heap.size ∧ ∀ j x i v,X[j]? = some x → x[i]? = some v → w.cell? ⟨b,o+(j * n+i),none⟩=some v
namespace RdN
variable {w w':World} {n c:Nat} {p:Option Addr} {X:List (List Value)}
theorem but (h:RdN w n p c X) {l:List Nat} (k:But l w w') (hf:∀ b o,p=some ⟨b,o,none⟩ → b ∉ l):RdN w' n p c X:=by
 refine ⟨h.le,h.cap,fun h0=>?_⟩
 obtain ⟨b,o,rfl,hb,hc⟩:=h.cells h0
 exact ⟨b,o,rfl,Nat.lt_of_lt_of_le hb k.size,fun j x i v hx hv=>(k.cell hb (hf b o rfl) _).trans (hc j x i v hx hv)⟩
theorem ext (h:RdN w n p c X) (k:Ext w w'):RdN w' n p c X:=h.but (l:=[]) (But.ofExt k) (by simp)
end RdN
structure RowN (w:World) (n:Nat) (t:TypeId) (p:Option Addr) (c:Nat) (X:List (List Value)):Prop where
 own:w.ownsRow 0 t n (.slice p X.length c) X.length X.flatten
 len:∀ x ∈ X,x.length=n
theorem flatten_get {n:Nat}:∀ {X:List (List Value)} {j i:Nat} {x:List Value} {v:Value},(∀ x ∈ X,x.length=n) → X[j]? = some x → x[i]? = some v → X.flatten[j * n+i]? = some v
 | [],_,_,_,_,_,h,_=>by simp at h
 | y :: r,0,i,x,v,hl,hx,hv=>by
  simp only [List.getElem?_cons_zero,Option.some.injEq] at hx;subst hx;rw [List.flatten_cons,Nat.zero_mul,Nat.zero_add,List.getElem?_append_left (List.getElem?_eq_some_iff.1 hv).1];exact hv
 | y :: r,j+1,i,x,v,hl,hx,hv=>by
  have e:=hl y (by simp);rw [List.flatten_cons,List.getElem?_append_right (by rw [e,Nat.succ_mul];omega),e,show (j+1) * n+i-n=j * n+i by rw [Nat.succ_mul];omega];exact flatten_get (fun x hx=>hl x (by simp [hx])) (by simpa using hx) hv
namespace RowN
variable {w w':World} {n c:Nat} {t:TypeId} {p:Option Addr} {X:List (List Value)}
theorem nil (w:World) (n:Nat) (t:TypeId):RowN w n t none 0 []:=⟨World.ownsRow_nil w _ _ _,by simp⟩
theorem rd (h:RowN w n t p c X):RdN w n p c X:=by
 rcases h.own.2 with ⟨e,hz⟩ | ⟨g,cap,cur,e,hb,hg,r1,r2,r3,r4⟩
 · injection e with e1 e2 e3
   exact ⟨by omega,by omega,fun h0=>by omega⟩
 · injection e with e1 e2 e3
   subst e1 e3;refine ⟨r1,by unfold maxLen at r2;omega,fun _=>⟨g,0,rfl,(Array.getElem?_eq_some_iff.1 hg).1,fun j x i v hx hv=>?_⟩⟩;have:=h.own.cells (g:=g) rfl (j * n+i) v (flatten_get h.len hx hv);rw [Addr.add_lit] at this;exact this
theorem but (h:RowN w n t p c X) {l:List Nat} (k:But l w w') (hf:∀ b o,p=some ⟨b,o,none⟩ → b ∉ l):RowN w' n t p c X:=by
 refine ⟨⟨h.own.1, ?_⟩,h.len⟩
 rcases h.own.2 with e | ⟨g,cap,cur,e,hb,hg,r⟩
 · exact .inl e
 · refine .inr ⟨g,cap,cur,e,hb, ?_,r⟩;have hl:=(Array.getElem?_eq_some_iff.1 hg).1;have e1:p=some ⟨g,0,none⟩:=by
    injection e
   rw [k.block g hl (hf g 0 e1)];exact hg
theorem ext (h:RowN w n t p c X) (k:Ext w w'):RowN w' n t p c X:=h.but (l:=[]) (But.ofExt k) (by simp)
theorem own_blk (h:RowN w n t p c X):∀ r,(Value.slice p X.length c).ownBlock=some r → p=some ⟨r,0,none⟩:=fun r hr=>by
 rcases h.own.2 with ⟨e',_⟩ | ⟨g',cap',cur',e',_⟩
 · injection e' with e1
   subst e1;simp [Value.ownBlock] at hr
 · injection e' with e1
   subst e1;have:g'=r:=by simpa [Value.ownBlock] using hr
   rw [this]
end RowN
theorem wpList_append_N {w:World} {ops:Array Oper} {rest:List Oper} {o:Oper} {a:Act} {Q:Exit → Act → World → Prop} (hgd:o.guard=none) (s x:Operand) (T t:TypeId)
    (ho:o.op = .call { callee:=.builtin .append,args:=#[s,x],argTypes:=#[T,T] }) {z:Value} {n bytes:Nat} (hT:Tryz.prog.underlying T=some (.slice t)) (hinfo:(Tryz.prog.info? t).map (fun i=>(i.zero,i.size,i.bytes))=some (some z,n,bytes)) (hzn:z.cells.size=n) (hn0:0 < n) (hby:bytes ≤ 1000)
    {c b m:Nat} {p:Option Addr} {X:List (List Value)} {y:List Value} (hm:X.length=m) (hs:a.eval s = .slice p m c) (hx:a.eval x = .slice (some ⟨b,0,none⟩) 1 1)
    (hrow:RowN w n t p c X) (hyl:y.length=n) (hy:∀ i v,y[i]? = some v → w.cell? ⟨b,i,none⟩=some v) (hone:∀ v ∈ y,v.oneCell'=true) (hlen:m < 10000000)
    (h:∀ g cap w' row,RowN w' n t (some ⟨g,0,none⟩) cap (X ++ [y]) → w.grownBy w' row → (∀ r,row=some r → p=some ⟨r,0,none⟩) → (p=some ⟨g,0,none⟩ ∨ g=w.heap.size) → g < w'.heap.size → wpList Tryz.prog ops Q rest (a.put o.dst (.slice (some ⟨g,0,none⟩) (m+1) cap)) w'):wpList Tryz.prog ops Q (o :: rest) a w:=by
  subst hm;obtain ⟨i0,hi,hz0,hz1,hz2⟩:=info_parts hinfo;refine wpList_append_lies w hgd s x T ho 0 t i0 z n bytes hT hi hz0 hz1 hz2 hzn hn0 _ _ _ hs hrow.own ⟨b,0,none⟩ 1 1 y hx (by rw [hyl,Nat.one_mul]) (fun j u hj=>?_) hone (by omega) (by unfold maxLen;omega) (Nat.le_trans (Nat.mul_le_mul (show X.length+1 ≤ 10000000 by omega) hby) (by decide)) (Nat.zero_le _) _ rfl ?_
  · rw [Addr.add_lit]
    simpa using hy j u hj
  · intro g cap w' hown hgrow hor hlt;have own:=hrow.own_blk;refine h g cap w' _ ⟨by simpa using hown,fun u hu=>?_⟩ hgrow own (hor.imp (own g) id) hlt
    rcases List.mem_append.1 hu with hu | hu
    · exact hrow.len u hu
    · rw [List.mem_singleton.1 hu];exact hyl
def blk:Option Addr → List Nat
 | some a=>[a.block]
 | none=>[]
theorem mem_blk {p:Option Addr} {b o:Nat} (e:p=some ⟨b,o,none⟩):b ∈ blk p:=by subst e;simp [blk]
def endC (v:Int × Int):List Value:=[.int .u8 v.1,.int .i64 v.2]
def nodeC (q:Int × List Int) (k:Option Addr × Nat):List Value:=[.int .i64 q.1,.slice k.1 q.2.length k.2]
structure DgL where
 ps:Option Addr
 cs:Nat
 po:Option Addr
 co:Nat
 pe:Option Addr
 ce:Nat
 pn:Option Addr
 cn:Nat
 K:List (Option Addr × Nat)
def DgL.blocks (L:DgL):List Nat:=blk L.ps ++ blk L.po ++ blk L.pe ++ blk L.pn ++ L.K.flatMap (fun k=>blk k.1)
def DgL.cells (L:DgL) (zs os es ns:Nat) (x:Int):Array Value:=#[.slice L.ps zs L.cs,.slice L.po os L.co,.slice L.pe es L.ce,.slice L.pn ns L.cn,.int .i64 x]
structure DgRd (w:World) (L:DgL) (z o:List Int) (E:List (Int × Int)) (N:List (Int × List Int)):Prop where
 s:SliceAt w L.ps L.cs z
 o:SliceAt w L.po L.co o
 e:RdN w 2 L.pe L.ce (E.map endC)
 n:RdN w 2 L.pn L.cn (List.zipWith nodeC N L.K)
 kl:L.K.length=N.length
 ks:∀ (j:Nat) (q:Int × List Int) (k:Option Addr × Nat),N[j]? = some q → L.K[j]? = some k → SliceAt w k.1 k.2 q.2
theorem DgRd.but {w w':World} {L:DgL} {z o:List Int} {E:List (Int × Int)} {N:List (Int × List Int)} (h:DgRd w L z o E N) {l:List Nat} (k:But l w w') (hl:∀ b ∈ l,b ∉ L.blocks):DgRd w' L z o E N:=by
 have key:∀ b,b ∈ L.blocks → b ∉ l:=fun b hb hm=>hl b hm hb
 refine ⟨h.s.but k fun b o e=>key b ?_,h.o.but k fun b o e=>key b ?_,h.e.but k fun b o e=>key b ?_,h.n.but k fun b o e=>key b ?_,h.kl,fun j q kk hq hk=>(h.ks j q kk hq hk).but k fun b o e=>key b ?_⟩
 all_goals simp only [DgL.blocks,List.mem_append,List.mem_flatMap]
 · exact .inl (.inl (.inl (.inl (mem_blk e))))
 · exact .inl (.inl (.inl (.inr (mem_blk e))))
 · exact .inl (.inl (.inr (mem_blk e)))
 · exact .inl (.inr (mem_blk e))
 · exact .inr ⟨kk,List.mem_of_getElem? hk,mem_blk e⟩
theorem DgRd.ext {w w':World} {L:DgL} {z o:List Int} {E:List (Int × Int)} {N:List (Int × List Int)} (h:DgRd w L z o E N) (k:Ext w w'):DgRd w' L z o E N:=h.but (l:=[]) (But.ofExt k) (by simp)
open Go.RowKit Go.Maps
theorem eq_val (a b a' b':Int) (u:World):Sem.run Tryz.prog (Op.equalIn 10000 43 (.agg #[.int .u8 a,.int .i64 b]) (.agg #[.int .u8 a',.int .i64 b'])) u = .ok (decide ((a,b)=(a',b'))) u:=by
 rw [show (10000:Nat)=9999+1 from rfl]
 rw [run_equalIn_agg u 9999 43 _ _ (by kernel_rfl) (by kernel_rfl)]
 go_simp
 by_cases h:a=a' <;> by_cases k:b=b' <;> simp [h,k]
theorem map_endC_get {E:List (Int × Int)} {j:Nat} {v:Int × Int} (h:E[j]? = some v):(E.map endC)[j]? = some [.int .u8 v.1,.int .i64 v.2]:=by
 rw [List.getElem?_map,h]
 rfl
theorem RdN.end_cells {w:World} {p:Option Addr} {c:Nat} {E:List (Int × Int)} (h:RdN w 2 p c (E.map endC)) (h0:0 < E.length):∃ b o,p=some ⟨b,o,none⟩ ∧ b < w.heap.size ∧ ∀ (j:Nat) (v:Int × Int),E[j]? = some v → w.cell? ⟨b,o+j * 2,none⟩=some (.int .u8 v.1) ∧ w.cell? ⟨b,o+j * 2+1,none⟩=some (.int .i64 v.2):=by
 obtain ⟨b,o,rfl,hb,hc⟩:=h.cells (by simpa using h0)
 refine ⟨b,o,rfl,hb,fun j v hv=>⟨?_, ?_⟩⟩
 · exact hc j _ 0 _ (map_endC_get hv) rfl
 · exact hc j _ 1 _ (map_endC_get hv) rfl
theorem get_list {α:Type} {E:List α} {j:Nat} (h:j < E.length):∃ v,E[j]? = some v:=⟨E[j],List.getElem?_eq_getElem h⟩
theorem list_eq_of_get {α:Type} {l m:List α} (hl:l.length=m.length) (h:∀ i,i < l.length → l[i]? = m[i]?):l=m:=by
 apply List.ext_getElem? 
 intro i
 by_cases hi:i < l.length
 · exact h i hi
 · rw [List.getElem?_eq_none (by omega),List.getElem?_eq_none (by omega)]
set_option maxRecDepth 100000 in
set_option maxHeartbeats 4000000 in
theorem dAlike_any {w:World} {p q:Option Addr} {c d:Nat} {E F:List (Int × Int)} (h:RdN w 2 p c (E.map endC)) (k:RdN w 2 q d (F.map endC)) :
    Calls Tryz.prog 86 #[.slice p E.length c,.slice q F.length d] w fun e w'=>e = .returned (.bool (decide (E=F))) ∧ Ext w w':=by
  have hle:=h.le;have hcap:=h.cap;have hle':=k.le;have hcap':=k.cap;rw [List.length_map] at hle hle'
  by_cases hne:E.length=F.length
  case neg=>
   have e:decide (E=F)=false:=by
    apply decide_eq_false;intro e;exact hne (by rw [e])
   rw [e];clear h k e;generalize E.length=a at *;generalize F.length=b at *;have e1:((a:Int) == (b:Int))=false:=by simpa using (by omega:¬ (a:Int)=b)
   go_enter Tryz.func86,Tryz.ntmps86;go_wp2;go_returns;exact ⟨rfl,exx⟩
  case pos=>
   have H:=Lib.hid h;have K:=Lib.hid k;clear h k;rw [← hne];have HM:=Lib.hid hne;clear hne hle';generalize hL:E.length=n at hle ⊢;have HL:=Lib.hid hL;clear hL;have mixed:Tryz.prog.follows .mixedOrders=true:=by kernel_rfl
   go_enter Tryz.func86,Tryz.ntmps86;go_wp2
   go_loopg [5] n (fun g i wr=>∃ j:Nat,j ≤ n ∧ n-j ≤ g ∧ i = .int .i64 j ∧ Aside (Ext w wr) ∧ Aside (∀ i,i < j → E[i]? = F[i]?))
   case atStart=>exact ⟨0,Nat.zero_le _,by omega,rfl,Ext.refl w,fun m hm=>absurd hm (Nat.not_lt_zero _)⟩
   case round=>
    obtain ⟨j,hj,hg,rfl,HE,HA⟩:=hrel
    by_cases hlt:j < n
    · obtain ⟨f,hf⟩:=get_list (E:=E) (j:=j) (by rw [HL.out];exact hlt);obtain ⟨f',hf'⟩:=get_list (E:=F) (j:=j) (by rw [← HM.out,HL.out];exact hlt);obtain ⟨b,o,rfl,hb,hc⟩:=(H.out.ext HE.out).end_cells (by rw [HL.out];omega);obtain ⟨b',o',rfl,hb',hc'⟩:=(K.out.ext HE.out).end_cells (by rw [← HM.out,HL.out];omega);obtain ⟨g1,g2⟩:=hc j f hf;obtain ⟨k1,k2⟩:=hc' j f' hf';have EQ:=fun u=>eq_val f.1 f.2 f'.1 f'.2 u
      have HF:=Lib.hid hf;have HF':=Lib.hid hf';clear hf hc hf' hc';obtain ⟨f1,f2⟩:=f;obtain ⟨f1',f2'⟩:=f'
      by_cases he:(f1,f2)=(f1',f2')
      · simp only [he,decide_true] at EQ
        cases he
        go_wp2_with fail
        go_region_o
        go_wp2
        go_roundg (n-(j+1))
        case measure=>omega
        case rel=>
         refine ⟨j+1,by omega,by omega,by go_num,(show Aside _ from HE.out.drew),(show Aside _ from fun i hi=>?_)⟩
         by_cases e:i=j
         · subst e;rw [HF.out,HF'.out]
         · exact HA.out i (by omega)
      · simp only [he,decide_false] at EQ
        go_wp2_with fail
        go_region_o
        go_wp2;go_returns;refine ⟨?_,HE.out.drew⟩;have e:decide (E=F)=false:=by
         apply decide_eq_false;rintro rfl;have:=HF.out;rw [HF'.out] at this
         cases this
         exact he rfl
        rw [e];rfl
    · have:j=n:=by omega
      subst this;go_wp2;go_returns;refine ⟨?_,HE.out⟩;have e:decide (E=F)=true:=decide_eq_true (list_eq_of_get HM.out (by rw [HL.out];exact HA.out));rw [e];rfl
def dgV (L:DgL) (zs os es ns:Nat) (x:Int):Value:=.agg (L.cells zs os es ns x)
namespace Hp
def OrdTo (n:Nat) (o:List Int) (i:Nat):Prop:=∀ k x,k < i → rd o k=some x → (0 ≤ x ∧ x ≤ (n:Int)-1) ∧ ∀ m y,m < k → rd o m=some y → y ≠ x
def OrdOk (n:Nat) (o:List Int):Prop:=o.length=n ∧ OrdTo n o n
theorem OrdOk.nodup {n:Nat} {o:List Int} (h:OrdOk n o):o.Nodup:=by
 rw [List.nodup_iff_pairwise_ne,List.pairwise_iff_getElem]
 intro i j hi hj hij e
 have:=(h.2 j o[j] (by have:=h.1;omega) (by unfold rd;rw [List.getElem?_eq_getElem])).2 i o[i] hij (by unfold rd;rw [List.getElem?_eq_getElem])
 exact this e
theorem OrdOk.rng {n:Nat} {o:List Int} (h:OrdOk n o):∀ x ∈ o,0 ≤ x ∧ x < n:=fun x hx=>by
 obtain ⟨i,hi,rfl⟩:=List.getElem_of_mem hx
 have:=(h.2 i o[i] (by have:=h.1;omega) (by unfold rd;rw [List.getElem?_eq_getElem])).1
 omega
theorem mem_upto {n:Nat} {x:Int}:x ∈ upto n ↔ 0 ≤ x ∧ x < n:=by
 unfold upto
 rw [List.mem_map]
 constructor
 · rintro ⟨k,hk,rfl⟩;have:=List.mem_range.1 hk;omega
 · intro h;exact ⟨x.toNat,List.mem_range.2 (by omega),by omega⟩
theorem nodup_lenI:∀ {l m:List Int},l.Nodup → (∀ a ∈ l,a ∈ m) → l.length ≤ m.length
 | [],_,_,_=>Nat.zero_le _
 | a :: r,m,hp,hm=>by
  have ha:a ∈ m:=hm a (by simp);obtain ⟨h1,h2⟩:=List.nodup_cons.1 hp;have:=nodup_lenI (l:=r) (m:=m.erase a) h2 (fun b hb=>(List.mem_erase_of_ne (by rintro rfl;exact h1 hb)).2 (hm b (by simp [hb])));rw [List.length_erase_of_mem ha] at this;have:=List.length_pos_of_mem ha;simp only [List.length_cons];omega
theorem upto_up (n:Nat):(upto n).Pairwise (· < ·):=by
 unfold upto
 rw [List.pairwise_map]
 exact List.pairwise_lt_range.imp fun h=>by omega
theorem full_perm {o:List Int} {n:Nat} (hl:o.length=n) (hn:o.Nodup) (hr:∀ x ∈ o,0 ≤ x ∧ x < n):o.Perm (upto n):=by
 have hsub:∀ x ∈ upto n,x ∈ o:=fun x hx=>by
  apply Classical.byContradiction;intro hne;have:=nodup_lenI (l:=x :: o) (m:=upto n) (List.nodup_cons.2 ⟨hne,hn⟩) (fun a ha=>by
   rcases List.mem_cons.1 ha with rfl | ha
   · exact hx
   · exact mem_upto.2 (hr a ha))
  rw [upto_length] at this;simp only [List.length_cons] at this;omega
 refine (List.perm_ext_iff_of_nodup hn ((upto_up n).imp fun h=>by omega)).2 fun a=>⟨fun ha=>mem_upto.2 (hr a ha),hsub a⟩
theorem ordOk_iff {o:List Int} {n:Nat}:OrdOk n o ↔ sortI o=upto n:=by
 constructor
 · intro h;refine List.Perm.eq_of_pairwise (le:=fun a b:Int=>a ≤ b) (fun a b _ _ h1 h2=>by omega) (sorted_sortI o) ((upto_up n).imp fun h=>by omega) ((perm_sortI o).trans (full_perm h.1 h.nodup h.rng))
 · intro h;have hp:o.Perm (upto n):=h ▸ (perm_sortI o).symm;have hl:o.length=n:=by rw [hp.length_eq,upto_length]
   have hn:o.Nodup:=hp.nodup_iff.2 ((upto_up n).imp fun h=>by omega);refine ⟨hl,fun k x hk hx=>⟨?_,fun m y hm hy e=>?_⟩⟩
   · have:=mem_upto.1 (hp.mem_iff.1 (List.mem_of_getElem? hx));omega
   · obtain ⟨l1,e1⟩:=List.getElem?_eq_some_iff.1 hx;obtain ⟨l2,e2⟩:=List.getElem?_eq_some_iff.1 hy;rw [List.nodup_iff_pairwise_ne,List.pairwise_iff_getElem] at hn;exact hn m k l2 l1 hm (by rw [e1,e2];exact e)
theorem frameErr_ok {z o:List Int} (h:frameErr z o=0):FrOk z o ∧ z.foldl (· * ·) 1 ≤ 2000:=by
 unfold frameErr at h
 split at h
 · cases h
 · split at h
   · cases h
   · split at h
     · cases h
     · split at h
       · rename_i h1 h2 h3 h4;have ho:=ordOk_iff.2 h4;have hp:o.Perm (upto z.length):=h4 ▸ (perm_sortI o).symm;refine ⟨{ few:=by omega,pos:=fun s hs=>?_,len:=ho.1,perm:=fun i hi=>hp.mem_iff.2 (mem_upto.2 (by omega)),rng:=ho.rng,nodup:=ho.nodup },by omega⟩;have h2':z.all (fun n=>decide (1 ≤ n) && decide (n ≤ 12))=true:=by simpa using h2
         have:=List.all_eq_true.1 h2' s hs
         simpa using this
       · cases h
end Hp
open Go.RowKit Go.Maps
structure Dd where
 hb:Nat
 kb:Nat
 hx:Nat
 gd:Nat
 fb:Nat
 gk:Nat
 v0:Value
 v1:Value
 v4:Value
def Dd.dyn (i:Dd) (pe pn:Option Addr):List Nat:=i.gk :: i.gd :: (blk pe ++ blk pn)
def Dd.fixed (i:Dd):List Nat:=[i.kb,i.hx,i.fb]
def Dd.fv (i:Dd):Value:=.func (.func 81) #[] #[.pointer (some ⟨i.kb,0,none⟩),.pointer (some ⟨i.hx,0,none⟩),.pointer (some ⟨i.gd,0,none⟩),.pointer (some ⟨i.fb,0,none⟩)]
structure DgSt (wb w:World) (i:Dd) (D:Hp.Dg) (pe:Option Addr) (ce:Nat) (pn:Option Addr) (cn:Nat) (K:List (Nat × Nat)):Prop where
 ext:Ext wb w
 k:w.cell? ⟨i.kb,0,none⟩=some (.map (some i.gk))
 h:w.cell? ⟨i.hx,0,none⟩=some (.pointer (some ⟨i.hb,0,none⟩))
 f:w.cell? ⟨i.fb,0,none⟩=some i.fv
 d2:w.cell? ⟨i.gd,2,none⟩=some (.slice pe D.ends.length ce)
 d3:w.cell? ⟨i.gd,3,none⟩=some (.slice pn D.nodes.length cn)
 d0:w.cell? ⟨i.gd,0,none⟩=some i.v0
 d1:w.cell? ⟨i.gd,1,none⟩=some i.v1
 d4:w.cell? ⟨i.gd,4,none⟩=some i.v4
 z:∀ o,w.frozen? ⟨i.gd,o,none⟩=false
 z2:w.frozen? ⟨i.gd,2,none⟩=false
 z3:w.frozen? ⟨i.gd,3,none⟩=false
 map:MapIAt Tryz.prog w i.gk D.known
 er:RowN w 2 43 pe ce (D.ends.map endC)
 nr:RowN w 2 41 pn cn (List.zipWith (fun q k=>nodeC q (some ⟨k.1,0,none⟩,k.2)) D.nodes K)
 kl:K.length=D.nodes.length
 ks:∀ (j:Nat) (q:Int × List Int) (k:Nat × Nat),D.nodes[j]? = some q → K[j]? = some k → SliceAt w (some ⟨k.1,0,none⟩) k.2 q.2
 lo:∀ b ∈ i.fixed ++ i.dyn pe pn ++ K.map Prod.fst,wb.heap.size ≤ b ∧ b < w.heap.size
 fx:∀ b ∈ i.fixed,b ∉ i.dyn pe pn ∧ b ∉ K.map Prod.fst
 kx:∀ k ∈ K,k.1 ∉ i.dyn pe pn
 nd:i.gk ≠ i.gd ∧ i.gk ∉ blk pe ∧ i.gk ∉ blk pn ∧ i.gd ∉ blk pe ∧ i.gd ∉ blk pn ∧ ∀ b ∈ blk pe,b ∉ blk pn
namespace DgSt
variable {wb w w':World} {i:Dd} {D:Hp.Dg} {pe pn:Option Addr} {ce cn:Nat} {K:List (Nat × Nat)}
theorem gk_dyn (i:Dd) (pe pn:Option Addr):i.gk ∈ i.dyn pe pn:=by simp [Dd.dyn]
theorem gd_dyn (i:Dd) (pe pn:Option Addr):i.gd ∈ i.dyn pe pn:=by simp [Dd.dyn]
theorem pe_dyn (i:Dd) {pe pn:Option Addr} {b:Nat} (h:b ∈ blk pe):b ∈ i.dyn pe pn:=by simp [Dd.dyn,h]
theorem pn_dyn (i:Dd) {pe pn:Option Addr} {b:Nat} (h:b ∈ blk pn):b ∈ i.dyn pe pn:=by simp [Dd.dyn,h]
theorem far (h:DgSt wb w i D pe ce pn cn K) {l:List Nat} (k:But l w w') (hw:∀ b ∈ l,wb.heap.size ≤ b) (hl:∀ b ∈ l,b ∉ i.fixed ∧ b ∉ i.dyn pe pn ∧ b ∉ K.map Prod.fst):DgSt wb w' i D pe ce pn cn K:=by
 have f1:∀ b ∈ i.fixed,b ∉ l:=fun b hb hm=>(hl b hm).1 hb
 have f2:∀ b ∈ i.dyn pe pn,b ∉ l:=fun b hb hm=>(hl b hm).2.1 hb
 have kk:i.kb ∉ l:=f1 _ (by simp [Dd.fixed])
 have kh:i.hx ∉ l:=f1 _ (by simp [Dd.fixed])
 have kf:i.fb ∉ l:=f1 _ (by simp [Dd.fixed])
 have kd:i.gd ∉ l:=f2 _ (gd_dyn _ _ _)
 exact
  { ext:=k.toExt h.ext hw
    k:=(k.cell (cell_lt h.k) kk 0).trans h.k
    h:=(k.cell (cell_lt h.h) kh 0).trans h.h
    f:=(k.cell (cell_lt h.f) kf 0).trans h.f
    d2:=(k.cell (cell_lt h.d2) kd 2).trans h.d2
    d3:=(k.cell (cell_lt h.d3) kd 3).trans h.d3
    d0:=(k.cell (cell_lt h.d2) kd 0).trans h.d0
    d1:=(k.cell (cell_lt h.d2) kd 1).trans h.d1
    d4:=(k.cell (cell_lt h.d2) kd 4).trans h.d4
    z:=fun o=>(k.frozen (cell_lt h.d2) kd o).trans (h.z o)
    z2:=(k.frozen (cell_lt h.d2) kd 2).trans h.z2
    z3:=(k.frozen (cell_lt h.d2) kd 3).trans h.z3
    map:=h.map.but k (f2 _ (gk_dyn _ _ _))
    er:=h.er.but k fun b o e=>f2 _ (pe_dyn _ (mem_blk e))
    nr:=h.nr.but k fun b o e=>f2 _ (pn_dyn _ (mem_blk e))
    kl:=h.kl
    ks:=fun j q kk hq hk=>(h.ks j q kk hq hk).but k fun b o e hm=>by
     cases e
     exact (hl _ hm).2.2 (List.mem_map.2 ⟨kk,List.mem_of_getElem? hk,rfl⟩)
    lo:=fun b hb=>⟨(h.lo b hb).1,Nat.lt_of_lt_of_le (h.lo b hb).2 k.size⟩
    fx:=h.fx
    kx:=h.kx
    nd:=h.nd }
theorem ext' (h:DgSt wb w i D pe ce pn cn K) (k:Ext w w'):DgSt wb w' i D pe ce pn cn K:=h.far (l:=[]) (But.ofExt k) (by simp) (by simp)
theorem known_ (h:DgSt wb w i D pe ce pn cn K) (k:But [i.gk] w w') {M:List (Nat × Int)} (hm:MapIAt Tryz.prog w' i.gk M):DgSt wb w' i { D with known:=M } pe ce pn cn K:=by
 have hg:wb.heap.size ≤ i.gk:=(h.lo i.gk (by simp [Dd.dyn])).1
 have f1:∀ b ∈ i.fixed,b ∉ [i.gk]:=fun b hb hm=>by
  rw [List.mem_singleton.1 hm] at hb;exact (h.fx _ hb).1 (gk_dyn _ _ _)
 have kd:i.gd ∉ [i.gk]:=fun hm=>h.nd.1 (List.mem_singleton.1 hm).symm
 exact
  { ext:=k.toExt h.ext (fun b hb=>by rw [List.mem_singleton.1 hb];exact hg)
    k:=(k.cell (cell_lt h.k) (f1 _ (by simp [Dd.fixed])) 0).trans h.k
    h:=(k.cell (cell_lt h.h) (f1 _ (by simp [Dd.fixed])) 0).trans h.h
    f:=(k.cell (cell_lt h.f) (f1 _ (by simp [Dd.fixed])) 0).trans h.f
    d2:=(k.cell (cell_lt h.d2) kd 2).trans h.d2
    d3:=(k.cell (cell_lt h.d3) kd 3).trans h.d3
    d0:=(k.cell (cell_lt h.d2) kd 0).trans h.d0
    d1:=(k.cell (cell_lt h.d2) kd 1).trans h.d1
    d4:=(k.cell (cell_lt h.d2) kd 4).trans h.d4
    z:=fun o=>(k.frozen (cell_lt h.d2) kd o).trans (h.z o)
    z2:=(k.frozen (cell_lt h.d2) kd 2).trans h.z2
    z3:=(k.frozen (cell_lt h.d2) kd 3).trans h.z3
    map:=hm
    er:=h.er.but k fun b o e hm=>h.nd.2.1 (by rw [← List.mem_singleton.1 hm];exact mem_blk e)
    nr:=h.nr.but k fun b o e hm=>h.nd.2.2.1 (by rw [← List.mem_singleton.1 hm];exact mem_blk e)
    kl:=h.kl
    ks:=fun j q kk hq hk=>(h.ks j q kk hq hk).but k fun b o e hm=>by
     cases e
     have:=h.kx kk (List.mem_of_getElem? hk);rw [List.mem_singleton.1 hm] at this;exact this (gk_dyn _ _ _)
    lo:=fun b hb=>⟨(h.lo b hb).1,Nat.lt_of_lt_of_le (h.lo b hb).2 k.size⟩
    fx:=h.fx
    kx:=h.kx
    nd:=h.nd }
theorem grown (h:DgSt wb w i D pe ce pn cn K) {row:Option Nat} (hG:w.grownBy w' row) {p0:Option Addr} (hrow:∀ r,row=some r → p0=some ⟨r,0,none⟩) (o:Nat) (v:Value) :
    But (i.gd :: blk p0) w (w'.setCell ⟨i.gd,o,none⟩ v):=by
  have k1:But (i.gd :: blk p0) w w':=⟨hG.os,hG.tape,hG.output,hG.size,fun j hj hn=>hG.block j hj fun e=>hn (by rw [hrow j e.symm];simp [blk])⟩
  exact k1.setCell (.inl (by simp)) _
theorem store2 (h:DgSt wb w i D pe ce pn cn K) {row:Option Nat} (hG:w.grownBy w' row) (hrow:∀ r,row=some r → pe=some ⟨r,0,none⟩):w'.cell? ⟨i.gd,2,none⟩=some (.slice pe D.ends.length ce) ∧ w'.frozen? ⟨i.gd,2,none⟩=false:=by
 have k1:But (blk pe) w w':=⟨hG.os,hG.tape,hG.output,hG.size,fun j hj hn=>hG.block j hj fun e=>hn (by rw [hrow j e.symm];simp [blk])⟩
 exact ⟨(k1.cell (cell_lt h.d2) h.nd.2.2.2.1 2).trans h.d2,(k1.frozen (cell_lt h.d2) h.nd.2.2.2.1 2).trans h.z2⟩
theorem store3 (h:DgSt wb w i D pe ce pn cn K) {row:Option Nat} (hG:w.grownBy w' row) (hrow:∀ r,row=some r → pn=some ⟨r,0,none⟩):w'.cell? ⟨i.gd,3,none⟩=some (.slice pn D.nodes.length cn) ∧ w'.frozen? ⟨i.gd,3,none⟩=false:=by
 have k1:But (blk pn) w w':=⟨hG.os,hG.tape,hG.output,hG.size,fun j hj hn=>hG.block j hj fun e=>hn (by rw [hrow j e.symm];simp [blk])⟩
 exact ⟨(k1.cell (cell_lt h.d2) h.nd.2.2.2.2.1 3).trans h.d3,(k1.frozen (cell_lt h.d2) h.nd.2.2.2.2.1 3).trans h.z3⟩
theorem end_ (h:DgSt wb w i D pe ce pn cn K) {g cap:Nat} {row:Option Nat} {v:Int × Int} (hR:RowN w' 2 43 (some ⟨g,0,none⟩) cap (D.ends.map endC ++ [endC v])) (hG:w.grownBy w' row) (hrow:∀ r,row=some r → pe=some ⟨r,0,none⟩) (hg:pe=some ⟨g,0,none⟩ ∨ g=w.heap.size) (hlt:g < w'.heap.size) :
    DgSt wb (w'.setCell ⟨i.gd,2,none⟩ (.slice (some ⟨g,0,none⟩) (D.ends.length+1) cap)) i { D with ends:=D.ends ++ [v] } (some ⟨g,0,none⟩) cap pn cn K ∧ But (i.gd :: blk pe) w (w'.setCell ⟨i.gd,2,none⟩ (.slice (some ⟨g,0,none⟩) (D.ends.length+1) cap)):=by
  have kb:=h.grown hG hrow 2 (.slice (some ⟨g,0,none⟩) (D.ends.length+1) cap);refine ⟨?_,kb⟩;have k1:But (blk pe) w w':=⟨hG.os,hG.tape,hG.output,hG.size,fun j hj hn=>hG.block j hj fun e=>hn (by rw [hrow j e.symm];simp [blk])⟩
  have hd2:w'.cell? ⟨i.gd,2,none⟩=some (.slice pe D.ends.length ce):=by
   have k1:But (blk pe) w w':=⟨hG.os,hG.tape,hG.output,hG.size,fun j hj hn=>hG.block j hj fun e=>hn (by rw [hrow j e.symm];simp [blk])⟩
   exact (k1.cell (cell_lt h.d2) h.nd.2.2.2.1 2).trans h.d2
  have hz2:w'.frozen? ⟨i.gd,2,none⟩=false:=by
   have k1:But (blk pe) w w':=⟨hG.os,hG.tape,hG.output,hG.size,fun j hj hn=>hG.block j hj fun e=>hn (by rw [hrow j e.symm];simp [blk])⟩
   exact (k1.frozen (cell_lt h.d2) h.nd.2.2.2.1 2).trans h.z2
  have gnew:∀ b,b < w.heap.size → b ∉ blk pe → b ≠ g:=fun b hb hn e=>by
   subst e
   rcases hg with hg | hg
   · exact hn (by rw [hg];simp [blk])
   · omega
  have hgd:=h.lo i.gd (by simp [Dd.dyn]);have hgk:=h.lo i.gk (by simp [Dd.dyn]);have notl:∀ b,b ≠ i.gd → b ∉ blk pe → b ∉ i.gd :: blk pe:=fun b h1 h2 hm=>by
   rcases List.mem_cons.1 hm with e | e
   · exact h1 e
   · exact h2 e
  have fxl:∀ b ∈ i.fixed,b ∉ i.gd :: blk pe:=fun b hb=>notl b (fun e=>(h.fx b hb).1 (by rw [e];exact gd_dyn _ _ _)) (fun e=>(h.fx b hb).1 (pe_dyn _ e))
  have hw:wb.heap.size ≤ w.heap.size:=h.ext.le;have hww:=kb.size;have gkg:i.gk ≠ g:=gnew _ hgk.2 h.nd.2.1;have gdg:i.gd ≠ g:=gnew _ hgd.2 h.nd.2.2.2.1;have new:∀ b ∈ i.dyn (some ⟨g,0,none⟩) pn,b=g ∨ b ∈ i.dyn pe pn:=fun b hb=>by
   simp only [Dd.dyn,blk,List.mem_cons,List.mem_append,List.not_mem_nil,or_false] at hb ⊢
   rcases hb with hb | hb | hb | hb
   · exact .inr (.inl hb)
   · exact .inr (.inr (.inl hb))
   · exact .inl hb
   · exact .inr (.inr (.inr (.inr hb)))
  have klt:∀ k ∈ K,k.1 < w.heap.size:=fun k hk=>(h.lo k.1 (by simp only [List.mem_append,List.mem_map];exact .inr ⟨k,hk,rfl⟩)).2
  have sw:(w'.setCell ⟨i.gd,2,none⟩ (.slice (some ⟨g,0,none⟩) (D.ends.length+1) cap)).heap.size=w'.heap.size:=by simp [World.setCell]
  exact
   { ext:=kb.toExt h.ext fun b hb=>by
       rcases List.mem_cons.1 hb with rfl | hb
       · exact hgd.1
       · exact (h.lo b (by simp only [List.mem_append];exact .inl (.inr (pe_dyn _ hb)))).1
     k:=(kb.cell (cell_lt h.k) (fxl _ (by simp [Dd.fixed])) 0).trans h.k
     h:=(kb.cell (cell_lt h.h) (fxl _ (by simp [Dd.fixed])) 0).trans h.h
     f:=(kb.cell (cell_lt h.f) (fxl _ (by simp [Dd.fixed])) 0).trans h.f
     d2:=by
      rw [List.length_append];simp [go_sem,hd2]
     d3:=by
      have:w'.cell? ⟨i.gd,3,none⟩=some (.slice pn D.nodes.length cn):=by
       have k1:But (blk pe) w w':=⟨hG.os,hG.tape,hG.output,hG.size,fun j hj hn=>hG.block j hj fun e=>hn (by rw [hrow j e.symm];simp [blk])⟩
       exact (k1.cell (cell_lt h.d2) h.nd.2.2.2.1 3).trans h.d3
      simp [go_sem,this]
     d0:=by
      have:=(k1.cell (cell_lt h.d2) h.nd.2.2.2.1 0).trans h.d0;simp [go_sem,this]
     d1:=by
      have:=(k1.cell (cell_lt h.d2) h.nd.2.2.2.1 1).trans h.d1;simp [go_sem,this]
     d4:=by
      have:=(k1.cell (cell_lt h.d2) h.nd.2.2.2.1 4).trans h.d4;simp [go_sem,this]
     z:=fun o=>by
      have:=(k1.frozen (cell_lt h.d2) h.nd.2.2.2.1 o).trans (h.z o);simp [go_sem,this]
     z2:=by simp [go_sem,hz2]
     z3:=by
      have:w'.frozen? ⟨i.gd,3,none⟩=false:=by
       have k1:But (blk pe) w w':=⟨hG.os,hG.tape,hG.output,hG.size,fun j hj hn=>hG.block j hj fun e=>hn (by rw [hrow j e.symm];simp [blk])⟩
       exact (k1.frozen (cell_lt h.d2) h.nd.2.2.2.1 3).trans h.z3
      simp [go_sem,this]
     map:=h.map.but kb (notl _ h.nd.1 h.nd.2.1)
     er:=by
      rw [show (D.ends ++ [v]).map endC=D.ends.map endC ++ [endC v] by simp];exact hR.but (l:=[i.gd]) ((But.refl _ _).setCell (.inl (by simp)) _) fun b o e hm=>by
       cases e
       exact gdg (List.mem_singleton.1 hm).symm
     nr:=h.nr.but kb fun b o e=>notl b (fun e'=>h.nd.2.2.2.2.1 (by rw [← e'];exact mem_blk e)) (fun e'=>h.nd.2.2.2.2.2 b e' (mem_blk e))
     kl:=h.kl
     ks:=fun j q kk hq hk=>(h.ks j q kk hq hk).but kb fun b o e=>by
      cases e
      have:=h.kx kk (List.mem_of_getElem? hk);exact notl _ (fun e=>this (by rw [e];exact gd_dyn _ _ _)) (fun e=>this (pe_dyn _ e))
     lo:=fun b hb=>by
      rw [sw];simp only [List.mem_append] at hb
      rcases hb with (hb | hb) | hb
      · have:=h.lo b (by simp only [List.mem_append];exact .inl (.inl hb));exact ⟨this.1,Nat.lt_of_lt_of_le this.2 hG.size⟩
      · rcases new b hb with rfl | hb
        · rcases hg with hg | hg
          · have:=h.lo b (by simp only [List.mem_append];exact .inl (.inr (pe_dyn _ (mem_blk hg))));exact ⟨this.1,hlt⟩
          · exact ⟨by omega,hlt⟩
        · have:=h.lo b (by simp only [List.mem_append];exact .inl (.inr hb));exact ⟨this.1,Nat.lt_of_lt_of_le this.2 hG.size⟩
      · have:=h.lo b (by simp only [List.mem_append];exact .inr hb);exact ⟨this.1,Nat.lt_of_lt_of_le this.2 hG.size⟩
     fx:=fun b hb=>⟨fun hm=>by
      rcases new b hm with e | hm
      · exact gnew b (h.lo b (by simp only [List.mem_append];exact .inl (.inl hb))).2 (fun e=>(h.fx b hb).1 (pe_dyn _ e)) e
      · exact (h.fx b hb).1 hm,(h.fx b hb).2⟩
     kx:=fun k hk hm=>by
      rcases new _ hm with e | hm
      · exact gnew _ (klt k hk) (fun e=>h.kx k hk (pe_dyn _ e)) e
      · exact h.kx k hk hm
     nd:=⟨h.nd.1,by simpa [blk] using gkg,h.nd.2.2.1,by simpa [blk] using gdg,h.nd.2.2.2.2.1,fun b hb hm=>by
      have e:b=g:=by simpa [blk] using hb
      subst e
      rcases hg with hg | hg
      · exact h.nd.2.2.2.2.2 b (mem_blk hg) hm
      · have:=(h.lo b (by simp only [List.mem_append];exact .inl (.inr (pn_dyn _ hm)))).2;omega⟩ }
theorem node_ (h:DgSt wb w i D pe ce pn cn K) {g cap g0 c0:Nat} {row:Option Nat} {q:Int × List Int} (hR:RowN w' 2 41 (some ⟨g,0,none⟩) cap (List.zipWith (fun q k=>nodeC q (some ⟨k.1,0,none⟩,k.2)) D.nodes K ++ [nodeC q (some ⟨g0,0,none⟩,c0)])) (hG:w.grownBy w' row) (hrow:∀ r,row=some r → pn=some ⟨r,0,none⟩) (hg:pn=some ⟨g,0,none⟩ ∨ g=w.heap.size) (hlt:g < w'.heap.size)
    (hs:SliceAt w (some ⟨g0,0,none⟩) c0 q.2) (h0:wb.heap.size ≤ g0 ∧ g0 < w.heap.size) (h1:g0 ∉ i.fixed) (h2:g0 ∉ i.dyn pe pn) :
    DgSt wb (w'.setCell ⟨i.gd,3,none⟩ (.slice (some ⟨g,0,none⟩) (D.nodes.length+1) cap)) i { D with nodes:=D.nodes ++ [q] } pe ce (some ⟨g,0,none⟩) cap (K ++ [(g0,c0)]) ∧ But (i.gd :: blk pn) w (w'.setCell ⟨i.gd,3,none⟩ (.slice (some ⟨g,0,none⟩) (D.nodes.length+1) cap)):=by
  have kb:=h.grown hG hrow 3 (.slice (some ⟨g,0,none⟩) (D.nodes.length+1) cap);refine ⟨?_,kb⟩;have k1:But (blk pn) w w':=⟨hG.os,hG.tape,hG.output,hG.size,fun j hj hn=>hG.block j hj fun e=>hn (by rw [hrow j e.symm];simp [blk])⟩
  have hd3:w'.cell? ⟨i.gd,3,none⟩=some (.slice pn D.nodes.length cn):=(k1.cell (cell_lt h.d2) h.nd.2.2.2.2.1 3).trans h.d3;have hd2:w'.cell? ⟨i.gd,2,none⟩=some (.slice pe D.ends.length ce):=(k1.cell (cell_lt h.d2) h.nd.2.2.2.2.1 2).trans h.d2;have hz2:w'.frozen? ⟨i.gd,2,none⟩=false:=(k1.frozen (cell_lt h.d2) h.nd.2.2.2.2.1 2).trans h.z2;have hz3:w'.frozen? ⟨i.gd,3,none⟩=false:=(k1.frozen (cell_lt h.d2) h.nd.2.2.2.2.1 3).trans h.z3;have gnew:∀ b,b < w.heap.size → b ∉ blk pn → b ≠ g:=fun b hb hn e=>by
   subst e
   rcases hg with hg | hg
   · exact hn (by rw [hg];simp [blk])
   · omega
  have hgd:=h.lo i.gd (by simp [Dd.dyn]);have hgk:=h.lo i.gk (by simp [Dd.dyn]);have notl:∀ b,b ≠ i.gd → b ∉ blk pn → b ∉ i.gd :: blk pn:=fun b h1 h2 hm=>by
   rcases List.mem_cons.1 hm with e | e
   · exact h1 e
   · exact h2 e
  have fxl:∀ b ∈ i.fixed,b ∉ i.gd :: blk pn:=fun b hb=>notl b (fun e=>(h.fx b hb).1 (by rw [e];exact gd_dyn _ _ _)) (fun e=>(h.fx b hb).1 (pn_dyn _ e))
  have hw:wb.heap.size ≤ w.heap.size:=h.ext.le;have gkg:i.gk ≠ g:=gnew _ hgk.2 h.nd.2.2.1;have gdg:i.gd ≠ g:=gnew _ hgd.2 h.nd.2.2.2.2.1;have new:∀ b ∈ i.dyn pe (some ⟨g,0,none⟩),b=g ∨ b ∈ i.dyn pe pn:=fun b hb=>by
   simp only [Dd.dyn,blk,List.mem_cons,List.mem_append,List.not_mem_nil,or_false] at hb ⊢
   rcases hb with hb | hb | hb | hb
   · exact .inr (.inl hb)
   · exact .inr (.inr (.inl hb))
   · exact .inr (.inr (.inr (.inl hb)))
   · exact .inl hb
  have klt:∀ k ∈ K,k.1 < w.heap.size:=fun k hk=>(h.lo k.1 (by simp only [List.mem_append,List.mem_map];exact .inr ⟨k,hk,rfl⟩)).2
  have sw:(w'.setCell ⟨i.gd,3,none⟩ (.slice (some ⟨g,0,none⟩) (D.nodes.length+1) cap)).heap.size=w'.heap.size:=by simp [World.setCell]
  have g0l:g0 ∉ i.gd :: blk pn:=notl _ (fun e=>h2 (by rw [e];exact gd_dyn _ _ _)) (fun e=>h2 (pn_dyn _ e));have mk:∀ b ∈ (K ++ [(g0,c0)]).map Prod.fst,b=g0 ∨ b ∈ K.map Prod.fst:=fun b hb=>by
   rw [List.map_append] at hb
   rcases List.mem_append.1 hb with hb | hb
   · exact .inr hb
   · exact .inl (by simpa using hb)
  exact
   { ext:=kb.toExt h.ext fun b hb=>by
       rcases List.mem_cons.1 hb with rfl | hb
       · exact hgd.1
       · exact (h.lo b (by simp only [List.mem_append];exact .inl (.inr (pn_dyn _ hb)))).1
     k:=(kb.cell (cell_lt h.k) (fxl _ (by simp [Dd.fixed])) 0).trans h.k
     h:=(kb.cell (cell_lt h.h) (fxl _ (by simp [Dd.fixed])) 0).trans h.h
     f:=(kb.cell (cell_lt h.f) (fxl _ (by simp [Dd.fixed])) 0).trans h.f
     d2:=by simp [go_sem,hd2]
     d3:=by
      rw [List.length_append];simp [go_sem,hd3]
     d0:=by
      have:=(k1.cell (cell_lt h.d2) h.nd.2.2.2.2.1 0).trans h.d0;simp [go_sem,this]
     d1:=by
      have:=(k1.cell (cell_lt h.d2) h.nd.2.2.2.2.1 1).trans h.d1;simp [go_sem,this]
     d4:=by
      have:=(k1.cell (cell_lt h.d2) h.nd.2.2.2.2.1 4).trans h.d4;simp [go_sem,this]
     z:=fun o=>by
      have:=(k1.frozen (cell_lt h.d2) h.nd.2.2.2.2.1 o).trans (h.z o);simp [go_sem,this]
     z2:=by simp [go_sem,hz2]
     z3:=by simp [go_sem,hz3]
     map:=h.map.but kb (notl _ h.nd.1 h.nd.2.2.1)
     er:=h.er.but kb fun b o e=>notl b (fun e'=>h.nd.2.2.2.1 (by rw [← e'];exact mem_blk e)) (fun e'=>h.nd.2.2.2.2.2 b (mem_blk e) e')
     nr:=by
      rw [show List.zipWith (fun (q:Int × List Int) (k:Nat × Nat)=>nodeC q (some ⟨k.1,0,none⟩,k.2)) (D.nodes ++ [q]) (K ++ [(g0,c0)])=List.zipWith (fun q k=>nodeC q (some ⟨k.1,0,none⟩,k.2)) D.nodes K ++ [nodeC q (some ⟨g0,0,none⟩,c0)] by rw [List.zipWith_append h.kl.symm];rfl];exact hR.but (l:=[i.gd]) ((But.refl _ _).setCell (.inl (by simp)) _) fun b o e hm=>by
       cases e
       exact gdg (List.mem_singleton.1 hm).symm
     kl:=by simp [h.kl]
     ks:=fun j q' kk hq hk=>by
      by_cases hj:j < D.nodes.length
      · rw [List.getElem?_append_left hj] at hq;rw [List.getElem?_append_left (by rw [h.kl];exact hj)] at hk;refine (h.ks j q' kk hq hk).but kb fun b o e=>?_
        cases e
        have:=h.kx kk (List.mem_of_getElem? hk);exact notl _ (fun e=>this (by rw [e];exact gd_dyn _ _ _)) (fun e=>this (pn_dyn _ e))
      · have ej:j=D.nodes.length:=by
          have:=(List.getElem?_eq_some_iff.1 hq).1;simp at this;omega
        subst ej;rw [List.getElem?_append_right (Nat.le_refl _),Nat.sub_self] at hq;rw [List.getElem?_append_right (by rw [h.kl];exact Nat.le_refl _),h.kl,Nat.sub_self] at hk
        cases hq
        cases hk
        exact hs.but kb fun b o e=>by
         cases e
         exact g0l
     lo:=fun b hb=>by
      rw [sw];simp only [List.mem_append] at hb
      rcases hb with (hb | hb) | hb
      · have:=h.lo b (by simp only [List.mem_append];exact .inl (.inl hb));exact ⟨this.1,Nat.lt_of_lt_of_le this.2 hG.size⟩
      · rcases new b hb with rfl | hb
        · rcases hg with hg | hg
          · have:=h.lo b (by simp only [List.mem_append];exact .inl (.inr (pn_dyn _ (mem_blk hg))));exact ⟨this.1,hlt⟩
          · exact ⟨by omega,hlt⟩
        · have:=h.lo b (by simp only [List.mem_append];exact .inl (.inr hb));exact ⟨this.1,Nat.lt_of_lt_of_le this.2 hG.size⟩
      · rcases mk b hb with rfl | hb
        · exact ⟨h0.1,Nat.lt_of_lt_of_le h0.2 hG.size⟩
        · have:=h.lo b (by simp only [List.mem_append];exact .inr hb);exact ⟨this.1,Nat.lt_of_lt_of_le this.2 hG.size⟩
     fx:=fun b hb=>⟨fun hm=>by
      rcases new b hm with e | hm
      · exact gnew b (h.lo b (by simp only [List.mem_append];exact .inl (.inl hb))).2 (fun e=>(h.fx b hb).1 (pn_dyn _ e)) e
      · exact (h.fx b hb).1 hm,fun hm=>by
      rcases mk b hm with rfl | hm
      · exact h1 hb
      · exact (h.fx b hb).2 hm⟩
     kx:=fun k hk hm=>by
      rcases List.mem_append.1 hk with hk | hk
      · rcases new _ hm with e | hm
        · exact gnew _ (klt k hk) (fun e=>h.kx k hk (pn_dyn _ e)) e
        · exact h.kx k hk hm
      · rw [List.mem_singleton.1 hk] at hm
        rcases new _ hm with e | hm
        · exact gnew _ h0.2 (fun e=>h2 (pn_dyn _ e)) e
        · exact h2 hm
     nd:=⟨h.nd.1,h.nd.2.1,by simpa [blk] using gkg,h.nd.2.2.2.1,by simpa [blk] using gdg,fun b hb hm=>by
      have e:b=g:=by simpa [blk] using hm
      subst e
      rcases hg with hg | hg
      · exact h.nd.2.2.2.2.2 b hb (mem_blk hg)
      · have:=(h.lo b (by simp only [List.mem_append];exact .inl (.inr (pe_dyn _ hb)))).2;omega⟩ }
end DgSt
namespace Nd
open Hp
structure Bnd (d:Dia) (t:List Int × List Int):Prop where
 n1:t.1.Nodup
 n2:t.2.Nodup
 b1:∀ x ∈ t.1,0 ≤ x ∧ x < d.nodes.length
 b2:∀ x ∈ t.2,0 ≤ x ∧ x < d.ends.length
theorem Bnd.len {d:Dia} {t:List Int × List Int} (h:Bnd d t):t.1.length ≤ d.nodes.length ∧ t.2.length ≤ d.ends.length:=by
 have h1:=nodup_lenI (m:=upto d.nodes.length) h.n1 fun a ha=>mem_upto.2 (h.b1 a ha)
 have h2:=nodup_lenI (m:=upto d.ends.length) h.n2 fun a ha=>mem_upto.2 (h.b2 a ha)
 rw [upto_len] at h1 h2
 exact ⟨h1,h2⟩
theorem Bnd.start (d:Dia):Bnd d ([],[]):=⟨by simp,by simp,by simp,by simp⟩
end Nd
end Go.Proofs.YtdokmmhjmclmnaaGreat
