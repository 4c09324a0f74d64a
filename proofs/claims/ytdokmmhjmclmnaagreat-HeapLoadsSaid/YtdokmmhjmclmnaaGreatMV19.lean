/-
  Part 19 of a proof: GP1 GP2 GP3 GP4 GP5 GP6 GP7.
-/
import Derived.Test.YtdokmmhjmclmnaaGreatMV02
import Derived.Test.YtdokmmhjmclmnaaGreatMV15
import Derived.Test.YtdokmmhjmclmnaaGreatMV16
import Derived.Test.YtdokmmhjmclmnaaGreatMV17
import Derived.Test.YtdokmmhjmclmnaaGreatMV18
set_option linter.unusedSimpArgs false
set_option linter.unusedVariables false
set_option linter.unusedSectionVars false
set_option linter.unnecessarySimpa false
namespace Go.Proofs.YtdokmmhjmclmnaaGreat
variable {W' w w' w0 wb:World} {B a b base c cap ce cn f g gb i j k lb m n oc s sc:Nat} {choice t x:Int} {G W fs l o xs z:List Int} {L:List Hp.Tl} {r:Rd} {S S':Hp.Hs} {A N T:List Nat} {M:List (Nat × Int)} {op p pe pn q sp:Option Addr} {d:Hd} {acts:List Hp.Act'}
namespace Hp
def TileOk (f:Nat->Int) (z:List Int) (t:Tl):Prop:=
 if t.fr then f t.a=0/\f (t.a+1)=t.k else okTag z (f t.a)=true/\t.k=wz z (f t.a)
theorem TileOk.free {f:Nat->Int} {t:Tl} (h:TileOk f z t) (hf:t.fr=true):f t.a=0/\f (t.a+1)=t.k:=by
 unfold TileOk at h
 rw [hf] at h
 exact h
theorem TileOk.cell {f:Nat->Int} {t:Tl} (h:TileOk f z t) (hf:t.fr=false):okTag z (f t.a)=true/\t.k=wz z (f t.a):=by
 unfold TileOk at h
 rw [hf] at h
 simpa using h
structure Tiles (f:Nat->Int) (z:List Int) (L:List Tl) (n:Nat):Prop where
 lay:Lay 17 L n
 ok:∀ t ∈ L,TileOk f z t
structure Tw (S:Hs) (L:List Tl):Prop where
 fr:FrOk S.sizes S.order
 lo:20<=S.words.length
 hi:S.words.length<=100000
 parts:Tiles (ow S.words) S.sizes L S.words.length
 taken:S.taken=adsOf L
namespace Tw
variable {S:Hs} {L:List Tl}
theorem part (h:Tw S L) (ha:a ∈ S.taken):(⟨a,wz S.sizes (ow S.words a),false⟩:Tl) ∈ L/\17<=a/\a+wz S.sizes (ow S.words a)<=S.words.length/\5<=wz S.sizes (ow S.words a)/\wz S.sizes (ow S.words a)<=16:=by
 rw [h.taken] at ha
 obtain ⟨t,ht,hf,rfl⟩:=mem_adsOf.1 ha
 obtain ⟨h1,h2⟩:=(h.parts.ok t ht).cell hf
 have h3:=h.parts.lay.mem ht
 have h4:=wz_ok h.fr.toFr h1
 rw [<- h2]
 rw [<- h2] at h4
 refine ⟨?_,h3.1,h3.2.1,h4.2.1,h4.2.2⟩
 have:(⟨t.a,t.k,false⟩:Tl)=t:=by
  cases t
  simp only at hf;subst hf;rfl
 rw [this]
 exact ht
theorem tags (h:Tw S L) (ha:a ∈ S.taken):okTag S.sizes (ow S.words a)=true:=by
 rw [h.taken] at ha
 obtain ⟨t,ht,hf,rfl⟩:=mem_adsOf.1 ha
 exact ((h.parts.ok t ht).cell hf).1
theorem tag_le (h:Tw S L) (ha:a ∈ S.taken):1<=ow S.words a/\ow S.words a<=24:=okTag_le h.fr.toFr (h.tags ha)
theorem tag_ (h:Tw S L) (ha:a ∈ S.taken):S.tag a=some (ow S.words a):=tag_ow (by have:=h.part ha;omega)
theorem fields_ (h:Tw S L) (ha:a ∈ S.taken):S.fields a=some (fz (ow S.words) S.sizes a):=fields_ow h.fr.toFr (h.tags ha) (h.part ha).2.2.1
theorem kids_ (h:Tw S L) (ha:a ∈ S.taken):S.kids a=some (kz (ow S.words) S.sizes a):=kids_ow h.fr.toFr (h.tags ha) (h.part ha).2.2.1
theorem up (h:Tw S L):S.taken.Pairwise (· < ·):=by
 rw [h.taken]
 exact adsOf_up h.parts.lay
theorem nodup (h:Tw S L):S.taken.Nodup:=h.up.imp fun hx=>Nat.ne_of_lt hx
theorem few (h:Tw S L):S.taken.length<=100000:=by
 have h1:=lay_len h.parts.lay
 have h2:=h.hi
 rw [h.taken]
 unfold adsOf
 rw [List.length_map]
 have:=List.length_filter_le (fun t:Tl=>!t.fr) L
 omega
theorem tagsOk (h:Tw S L):TagsOk S:=fun a ha=>⟨_,rd_ow (by have:=h.part ha;omega),by have:=h.tag_le ha;omega,by have:=h.tag_le ha;omega⟩
end Tw
def LinkedTo (f:Nat->Int):Nat->List Tl->Prop
 | l,[]=>f l=0
 | l,t :: r=>f l=t.a/\LinkedTo f (t.a+2) r
theorem links_of {f:Nat->Int}:∀ {l:Nat} {L:List Tl},LinkedTo f l (freeOf L)->Links f l L 0
 | l,[],h=>h
 | l,t :: r,h=>by
  unfold freeOf at h;unfold Links
  cases hf:t.fr with
  | true=>
   simp only [List.filter,hf] at h;exact ⟨h.1,links_of h.2⟩
  | false=>
   simp only [List.filter,hf] at h;exact links_of h
def Apart:List Tl->Prop
 | t :: u :: r=>t.a+t.k ≠ u.a/\Apart (u :: r)
 | _=>True
theorem sep_of:∀ {s n:Nat} {L:List Tl},Lay s L n->Apart (freeOf L)->Sep L
 | _,_,[],_,_=>trivial
 | _,_,[_],_,_=>trivial
 | s,n,t :: u :: r,hL,h=>by
  obtain ⟨h1,h2,h3⟩:=hL;refine ⟨fun ⟨e1,e2⟩=>?_,sep_of h3 ?_⟩
  . unfold freeOf at h;simp only [List.filter,e1,e2] at h;have:=h3.1;exact h.1 (by omega)
  unfold freeOf at h ⊢
  cases hf:t.fr with
  | false=>
   simp only [List.filter,hf] at h;exact h
  | true=>
   rw [List.filter,hf] at h;simp only at h;generalize List.filter (fun t=>t.fr) (u :: r)=q at h ⊢
   cases q with
   | nil=>trivial
   | cons v q=>exact h.2
def Zeros (f:Nat->Int) (L:List Tl):Prop:=∀ t ∈ L,t.fr=true -> ∀ j,t.a+3<=j->j < t.a+t.k->f j=0
theorem Tiles.parts_ {f:Nat->Int} (h:Tiles f z L n) (h1:LinkedTo f 16 (freeOf L)) (h2:Apart (freeOf L)) (h3:Zeros f L):Parts f z L n where
 lay:=h.lay
 links:=links_of h1
 sep:=sep_of h.lay h2
 ok:=fun t ht=>by
  have:=h.ok t ht;unfold PartOk
  cases hf:t.fr with
  | true=>
   have:=this.free hf;simp only [if_true];exact ⟨this.1,this.2,h3 t ht hf⟩
  | false=>
   have:=this.cell hf;simp only [Bool.false_eq_true,if_false];exact this
structure ChOk (S:Hs) (k:Nat) (ch:Nat->List Nat):Prop where
 path:∀ c,c < k->Path (ow S.words) c (ch c)
 mem:∀ c,c < k -> ∀ a ∈ ch c,a ∈ S.taken/\cz (ow S.words a) (fz (ow S.words) S.sizes a)=c
 nodup:∀ c,c < k->(ch c).Nodup
def many (ch:Nat->List Nat):Nat->Nat
 | 0=>0
 | k+1=>many ch k+(ch k).length
def allOf (ch:Nat->List Nat):Nat->List Nat
 | 0=>[]
 | k+1=>allOf ch k ++ ch k
theorem allOf_len (ch:Nat->List Nat):∀ k,(allOf ch k).length=many ch k
 | 0=>rfl
 | k+1=>by simp only [allOf,many,List.length_append,allOf_len ch k]
theorem mem_allOf {ch:Nat->List Nat} {a:Nat}:∀ {k},a ∈ allOf ch k ↔ ∃ c,c < k/\a ∈ ch c
 | 0=>by simp [allOf]
 | k+1=>by
  simp only [allOf,List.mem_append,mem_allOf (k:=k)];constructor
  . rintro (⟨c,h1,h2⟩ | h)
    . exact ⟨c,by omega,h2⟩
    exact ⟨k,by omega,h⟩
  rintro ⟨c,h1,h2⟩
  by_cases e:c=k
  . subst e;exact .inr h2
  exact .inl ⟨c,by omega,h2⟩
theorem ChOk.all_nodup {ch:Nat->List Nat}:∀ {k},ChOk S k ch->(allOf ch k).Nodup
 | 0,_=>List.nodup_nil
 | k+1,h=>by
  have h':ChOk S k ch:=⟨fun c hc=>h.path c (by omega),fun c hc=>h.mem c (by omega),fun c hc=>h.nodup c (by omega)⟩
  simp only [allOf];refine List.nodup_append.2 ⟨h'.all_nodup,h.nodup k (by omega),fun a ha b hb e=>?_⟩;subst e;obtain ⟨c,h1,h2⟩:=mem_allOf.1 ha;have e1:=(h.mem c (by omega) a h2).2;have e2:=(h.mem k (by omega) a hb).2;omega
theorem mem_of_len {l m:List Nat} (hl:l.Nodup) (hs:∀ a ∈ l,a ∈ m) (hn:m.length<=l.length):∀ a ∈ m,a ∈ l:=by
 intro a ha
 by_cases h:a ∈ l
 . exact h
 have h1:=nodup_len (l:=l) (m:=m.erase a) hl fun b hb=>(List.mem_erase_of_ne (fun (e:b=a)=>h (by rw [<- e];exact hb))).2 (hs b hb)
 rw [List.length_erase_of_mem ha] at h1
 have:=List.length_pos_of_mem ha
 omega
theorem ChOk.chains {ch:Nat->List Nat} (h:ChOk S 16 ch) (hm:S.taken.length<=many ch 16):Chains (ow S.words) S.sizes S.taken ch where
 path:=h.path
 nodup:=h.nodup
 mem:=fun c hc a=>by
  constructor
  . exact h.mem c hc a
  rintro ⟨h1,h2⟩;have:=mem_of_len h.all_nodup (fun b hb=>by obtain ⟨c,h1,h2⟩:=mem_allOf.1 hb;exact (h.mem c h1 b h2).1) (by rw [allOf_len];exact hm) a h1;obtain ⟨c',h3,h4⟩:=mem_allOf.1 this;have e:=(h.mem c' h3 a h4).2;rw [h2] at e;subst e;exact h4
theorem Tw.wf {ch:Nat->List Nat} (h:Tw S L) (h1:LinkedTo (ow S.words) 16 (freeOf L)) (h2:Apart (freeOf L)) (h3:Zeros (ow S.words) L) (h4:Cells (ow S.words) S.sizes S.order S.taken)
    (h5:Uses (ow S.words) S.sizes S.taken S.taken) (h6:∀ a ∈ S.taken,0<=ow S.words (a+2)) (h7:∀ x ∈ S.words,x<=9223372036854775807) (h8:ChOk S 16 ch) (h9:S.taken.length<=many ch 16):Wf S 9223372036854775807 L ch where
  fr:=h.fr
  lo:=h.lo
  hi:=h.hi
  bd:=Nat.le_refl _
  parts:=h.parts.parts_ h1 h2 h3
  taken:=h.taken
  chains:=h8.chains h9
  cells:=h4
  uses:=h5
  holds:=fun a ha=>⟨h6 a ha,by
   have pa:=h.part ha;have hl:a+2 < S.words.length:=by omega
   have:=h7 (ow S.words (a+2)) (by unfold ow;rw [List.getD_eq_getElem?_getD,List.getElem?_eq_getElem hl];exact List.getElem_mem hl);omega⟩
end Hp
namespace Hp
theorem walk_from {S:Hs} (fr:Fr S.sizes):∀ (m a:Nat) (D:List Tl),Lay 17 D a->(∀ t ∈ D,TileOk (ow S.words) S.sizes t)->a<=S.words.length->S.words.length < a+m ->
    ∃ R,S.walkFrom m a (adsOf D) (gapsOf D)=some R /\ ∀ T G,R=some (T,G) -> ∃ L,Tiles (ow S.words) S.sizes L S.words.length/\T=adsOf L/\G=gapsOf L
  | 0,a,D,_,_,h1,h2=>by omega
  | m+1,a,D,hD,hok,hle,hm=>by
   unfold Hs.walkFrom
   by_cases hend:S.words.length<=a
   . rw [if_pos hend];refine ⟨_,rfl,fun T G e=>?_⟩
     cases e
     have e:a=S.words.length:=by omega
     subst e;exact ⟨D,⟨hD,hok⟩,rfl,rfl⟩
   rw [if_neg hend,rd_ow (by omega)];simp only [Option.bind_eq_bind,Option.bind_some];have step:∀ (t:Tl),t.a=a->3<=t.k->a+t.k<=S.words.length->TileOk (ow S.words) S.sizes t -> ∃ R,S.walkFrom m (a+t.k) (adsOf (D ++ [t])) (gapsOf (D ++ [t]))=some R /\ ∀ T G,R=some (T,G) -> ∃ L,Tiles (ow S.words) S.sizes L S.words.length/\T=adsOf L/\G=gapsOf L:=fun t e hk hl ht=>
    walk_from fr m (a+t.k) (D ++ [t]) (Lay.app.2 ⟨a,hD,e,hk,rfl⟩) (fun u hu=>by
     rcases List.mem_append.1 hu with hu | hu
     . exact hok u hu
     . rw [List.mem_singleton.1 hu];exact ht) hl (by omega)
   by_cases h0:ow S.words a=0
   . rw [if_pos h0]
     by_cases h3:S.words.length < a+3
     . rw [if_pos h3];exact ⟨_,rfl,fun T G e=>by cases e⟩
     rw [if_neg h3,rd_ow (by omega)];simp only [Option.bind_some]
     by_cases hv:3<=ow S.words (a+1)/\(a:Int)+ow S.words (a+1)<=S.words.length
     . rw [if_pos hv]
       have:=step ⟨a,(ow S.words (a+1)).toNat,true⟩ rfl (by simp only;omega) (by simp only;omega) (by
        unfold TileOk;simp only [if_true];exact ⟨h0,by omega⟩)
       have e1:adsOf (D ++ [⟨a,(ow S.words (a+1)).toNat,true⟩])=adsOf D:=by simp [adsOf]
       have e2:gapsOf (D ++ [⟨a,(ow S.words (a+1)).toNat,true⟩])=gapsOf D ++ [(a:Int)]:=by rw [gapsOf_app];simp [gapsOf,freeOf]
       rw [e1,e2] at this;exact this
     rw [if_neg hv];exact ⟨_,rfl,fun T G e=>by cases e⟩
   rw [if_neg h0]
   by_cases ht:(within 1 S.sizes.length (ow S.words a) || isEnd (ow S.words a))=true
   . rw [if_pos ht];have hw:=wz_ok fr (show okTag S.sizes (ow S.words a)=true from ht);rw [hw.1];simp only [Option.bind_some]
     by_cases hk:a+wz S.sizes (ow S.words a)<=S.words.length
     . rw [if_pos hk]
       have:=step ⟨a,wz S.sizes (ow S.words a),false⟩ rfl (by simp only;omega) hk (by
        unfold TileOk;simp only [Bool.false_eq_true,if_false];exact ⟨ht,trivial⟩)
       have e1:adsOf (D ++ [⟨a,wz S.sizes (ow S.words a),false⟩])=Hs.insert a (adsOf D):=by
        rw [insert_last (fun y hy=>adsOf_lt hD y hy),adsOf_app];simp [adsOf]
       have e2:gapsOf (D ++ [⟨a,wz S.sizes (ow S.words a),false⟩])=gapsOf D:=by simp [gapsOf,freeOf]
       rw [e1,e2] at this;exact this
     rw [if_neg hk];exact ⟨_,rfl,fun T G e=>by cases e⟩
   rw [if_neg ht];exact ⟨_,rfl,fun T G e=>by cases e⟩
theorem walk_tw (fr:FrOk S.sizes S.order) (lo:20<=S.words.length) (hi:S.words.length<=100000) :
    ∃ R,S.walkFrom S.fuel 17 [] []=some R /\ ∀ T G,R=some (T,G) -> ∃ L,Tw { S with taken:=T } L/\G=gapsOf L:=by
  obtain ⟨R,h1,h2⟩:=walk_from fr.toFr S.fuel 17 [] rfl (fun t ht=>by cases ht) (by omega) (by unfold Hs.fuel;omega);refine ⟨R,h1,fun T G e=>?_⟩;obtain ⟨L,h3,h4,h5⟩:=h2 T G e;exact ⟨L,⟨fr,lo,hi,h3,h4⟩,h5⟩
theorem Tw.gaps (h:Tw S L):∀ x ∈ gapsOf L,Gap S.words x:=fun x hx=>by
 obtain ⟨t,ht,rfl⟩:=List.mem_map.1 hx
 obtain ⟨h1,h2⟩:=mem_freeOf.1 ht
 have h3:=h.parts.lay.mem h1
 have h4:=(h.parts.ok t h1).free h2
 exact ⟨t.a,t.k,rfl,by rw [rd_ow (by omega),h4.2],h3.2.2,h3.2.1⟩
theorem linked_of {W:List Int}:∀ (F:List Tl) (l:Nat),(∀ t ∈ F,3<=t.k/\t.a+t.k<=W.length/\ow W (t.a+1)=t.k)->Hp.linkedB W (F.map fun t=>(t.a:Int)) l=true ->
    LinkedTo (ow W) l F/\Apart F /\ ∀ t ∈ F,∀ j,t.a+3<=j->j < t.a+t.k->ow W j=0
  | [],l,_,h=>by
   simp only [List.map_nil,Hp.linkedB,beq_iff_eq] at h;exact ⟨(ow_rd h).1,trivial,by simp⟩
  | t :: r,l,hp,h=>by
   obtain ⟨p1,p2,p3⟩:=hp t (by simp);simp only [List.map_cons,Hp.linkedB,Int.toNat_natCast,rd_ow (show t.a+1 < W.length by omega),p3,Option.getD_some,Bool.and_eq_true,beq_iff_eq] at h;obtain ⟨h1,h2,h3,h4⟩:=h;obtain ⟨i1,i2,i3⟩:=linked_of r (t.a+2) (fun u hu=>hp u (by simp [hu])) h4;refine ⟨⟨(ow_rd h1).1,i1⟩, ?_,fun u hu=>?_⟩
   . cases r with
     | nil=>trivial
     | cons u r=>
      refine ⟨fun e=>?_,i2⟩;simp only [List.map_cons,bne_iff_ne,ne_eq] at h3;exact h3 (by omega)
   rcases List.mem_cons.1 hu with rfl | hu
   . intro j j1 j2;rw [List.all_eq_true] at h2;have hj:j < W.length:=by omega
     have hm:W[j] ∈ Hp.rest W u.a u.k:=by
      unfold Hp.rest;rw [List.mem_iff_getElem?];exact ⟨j-(u.a+3),by rw [List.getElem?_take_of_lt (by omega),List.getElem?_drop,show u.a+3+(j-(u.a+3))=j by omega];exact List.getElem?_eq_getElem hj⟩
     have:=h2 _ hm;unfold ow;rw [List.getD_eq_getElem?_getD,List.getElem?_eq_getElem hj]
     simpa using this
   exact i3 u hu
theorem Tw.linked (h:Tw S L) (hb:Hp.linkedB S.words (gapsOf L) 16=true):LinkedTo (ow S.words) 16 (freeOf L)/\Apart (freeOf L)/\Zeros (ow S.words) L:=by
 obtain ⟨h1,h2,h3⟩:=linked_of (freeOf L) 16 (fun t ht=>by
  obtain ⟨k1,k2⟩:=mem_freeOf.1 ht;have h3:=h.parts.lay.mem k1;exact ⟨h3.2.2,h3.2.1,((h.parts.ok t k1).free k2).2⟩) hb
 exact ⟨h1,h2,fun t ht hf=>h3 t (mem_freeOf.2 ⟨ht,hf⟩)⟩
theorem Tw.fld_le (h:Tw S L) (hc:Cells (ow S.words) S.sizes S.order S.taken) (ha:a ∈ S.taken):∀ x ∈ fz (ow S.words) S.sizes a,-1000000<=x/\x<=1000000:=by
 intro x hx
 cases he:isEnd (ow S.words a) with
 | true=>
  have h1:=hc.ends a ha he;obtain ⟨k,hk,rfl⟩:=mem_cut.1 hx;have:wz S.sizes (ow S.words a)=5:=by unfold wz;rw [he];rfl
  have:k=0:=by omega
  subst this;rw [Nat.add_zero];omega
 | false=>
  have hk:x ∈ kz (ow S.words) S.sizes a:=by unfold kz;rw [he];exact hx
  obtain ⟨b,hb,rfl,_⟩:=hc.kids a ha x hk;have:=h.part hb;have:=h.hi;omega
theorem Tw.chain_ (h:Tw S L) (hc:Cells (ow S.words) S.sizes S.order S.taken) (ha:a ∈ S.taken):chain (ow S.words a) (fz (ow S.words) S.sizes a)=some (cz (ow S.words a) (fz (ow S.words) S.sizes a)):=
 chain_cz (by have:=h.tag_le ha;omega) (h.fld_le hc ha) (by rw [fz_length];have:=h.part ha;omega)
theorem Tw.chainsOk (h:Tw S L) (hc:Cells (ow S.words) S.sizes S.order S.taken):ChainsOk S:=fun a ha=>
 ⟨_,_,_,_,h.tag_ ha,h.fields_ ha,h.chain_ hc ha,rd_ow (by have:=h.part ha;omega)⟩
theorem Tw.link_of (h:Tw S L) (hc:Cells (ow S.words) S.sizes S.order S.taken):∀ (m l:Nat) (seen s:List Nat),l < S.words.length->S.linkFrom c m (ow S.words l) seen=some (some s) ->
    ∃ r,Path (ow S.words) l r/\(∀ a ∈ r,a ∈ S.taken/\cz (ow S.words a) (fz (ow S.words) S.sizes a)=c)/\r.Nodup/\(∀ a ∈ r,a ∉ seen)/\s.length=seen.length+r.length /\ ∀ a,a ∈ s ↔ a ∈ seen \/ a ∈ r
  | 0,_,_,_,_,e=>by simp [Hs.linkFrom] at e
  | m+1,l,seen,s,hl,e=>by
   unfold Hs.linkFrom at e
   by_cases h0:ow S.words l=0
   . rw [if_pos h0] at e
     cases e
     exact ⟨[],h0,by simp,List.nodup_nil,by simp,rfl,by simp⟩
   rw [if_neg h0] at e
   by_cases h1:(({ S with taken:=seen }:Hs).has (ow S.words l) || !S.has (ow S.words l))=true
   . rw [if_pos h1] at e
     cases e
   rw [if_neg h1] at e;simp only [Bool.not_eq_true,Bool.or_eq_false_iff,Bool.not_eq_false'] at h1;obtain ⟨a,ea,ha⟩:=has_nat h1.2;rw [ea] at e h1;have hn:a ∉ seen:=fun hh=>by
    have h:=h1.1;simp [Hs.has,hh] at h
   have pa:=h.part ha;rw [Int.toNat_natCast,chainOf_some (h.tag_ ha) (h.fields_ ha) (h.chain_ hc ha),rd_ow (by omega)] at e;simp only [Option.bind_eq_bind,Option.bind_some] at e
   by_cases h2:cz (ow S.words a) (fz (ow S.words) S.sizes a) ≠ c
   . rw [if_pos h2] at e
     cases e
   rw [if_neg h2] at e;obtain ⟨r,i1,i2,i3,i4,i5,i6⟩:=h.link_of hc m (a+3) (Hs.insert a seen) s (by omega) e;have hr:a ∉ r:=fun hh=>i4 a hh (mem_insert.2 (.inl rfl))
   refine ⟨a :: r,⟨ea,by omega,i1⟩,fun b hb=>?_,List.nodup_cons.2 ⟨hr,i3⟩,fun b hb=>?_, ?_,fun b=>?_⟩
   . rcases List.mem_cons.1 hb with rfl | hb
     . exact ⟨ha,Decidable.not_not.1 h2⟩
     exact i2 b hb
   . rcases List.mem_cons.1 hb with rfl | hb
     . exact hn
     exact fun hh=>i4 b hb (mem_insert.2 (.inr hh))
   . rw [i5,insert_length hn,List.length_cons];omega
   rw [i6,mem_insert,List.mem_cons];constructor
   . rintro ((e | e) | e)
     . exact .inr (.inl e)
     . exact .inl e
     exact .inr (.inr e)
   rintro (e | e | e)
   . exact .inl (.inr e)
   . exact .inl (.inl e)
   exact .inr e
theorem allOf_congr {ch ch':Nat->List Nat}:∀ {k},(∀ c,c < k->ch' c=ch c)->allOf ch' k=allOf ch k
 | 0,_=>rfl
 | k+1,h=>by
  simp only [allOf];rw [allOf_congr (k:=k) (fun c hc=>h c (by omega)),h k (by omega)]
def upd (ch:Nat->List Nat) (k:Nat) (r:List Nat):Nat->List Nat:=fun c=>if c=k then r else ch c
theorem ChOk.upd_ {ch:Nat->List Nat} (h:ChOk S k ch) {r:List Nat} (h1:Path (ow S.words) k r) (h2:∀ a ∈ r,a ∈ S.taken/\cz (ow S.words a) (fz (ow S.words) S.sizes a)=k) (h3:r.Nodup) :
    ChOk S (k+1) (upd ch k r)/\allOf (upd ch k r) (k+1)=allOf ch k ++ r:=by
  have e0:∀ c,c < k->upd ch k r c=ch c:=fun c hc=>by unfold upd;rw [if_neg (by omega)]
  have e1:upd ch k r k=r:=by unfold upd;rw [if_pos rfl]
  refine ⟨⟨fun c hc=>?_,fun c hc=>?_,fun c hc=>?_⟩, ?_⟩
  . by_cases e:c=k
    . subst e;rw [e1];exact h1
    rw [e0 c (by omega)];exact h.path c (by omega)
  . by_cases e:c=k
    . subst e;rw [e1];exact h2
    rw [e0 c (by omega)];exact h.mem c (by omega)
  . by_cases e:c=k
    . subst e;rw [e1];exact h3
    rw [e0 c (by omega)];exact h.nodup c (by omega)
  simp only [allOf];rw [allOf_congr e0,e1]
theorem Tw.heads_of (h:Tw S L) (hc:Cells (ow S.words) S.sizes S.order S.taken):∀ (n k:Nat) (ch:Nat->List Nat) (seen s:List Nat),k+n=16->ChOk S k ch->seen.length=many ch k->(∀ a,a ∈ seen ↔ a ∈ allOf ch k)->S.headsFrom n k seen=some (some s) ->
    ∃ ch',ChOk S 16 ch'/\s.length=many ch' 16
  | 0,k,ch,seen,s,hk,ho,hl,hm,e=>by
   have hk:k=16:=by omega
   subst hk;unfold Hs.headsFrom at e
   cases e
   exact ⟨ch,ho,hl⟩
  | n+1,k,ch,seen,s,hk,ho,hl,hm,e=>by
   unfold Hs.headsFrom at e;have h17:=h.lo;rw [rd_ow (by omega)] at e;simp only [Option.bind_eq_bind,Option.bind_some,Option.bind_eq_some_iff] at e;obtain ⟨r,h1,e⟩:=e
   cases r with
   | none=>cases e
   | some s1=>
    simp only at e;obtain ⟨r,i1,i2,i3,i4,i5,i6⟩:=h.link_of hc _ k seen s1 (by omega) h1;obtain ⟨u1,u2⟩:=ho.upd_ i1 i2 i3;refine h.heads_of hc n (k+1) (upd ch k r) s1 s (by omega) u1 ?_ (fun a=>?_) e
    . rw [i5,hl,<- allOf_len,<- allOf_len,u2,List.length_append]
    rw [i6,hm,u2,List.mem_append]
theorem Tw.chained (h:Tw S L) (hc:Cells (ow S.words) S.sizes S.order S.taken):∃ b,S.chainedB=some b/\(b=true -> ∃ ch,ChOk S 16 ch/\S.taken.length<=many ch 16):=by
 obtain ⟨r,hr⟩:=headsFrom_total (h.chainsOk hc) (by have:=h.lo;omega) (n:=16) (head:=0) (seen:=[]) List.Pairwise.nil (by simp) (by omega)
 unfold Hs.chainedB
 rw [hr]
 cases r with
 | none=>exact ⟨false,rfl,fun e=>by cases e⟩
 | some s=>
  refine ⟨s.length == S.taken.length,rfl,fun e=>?_⟩;obtain ⟨ch,h1,h2⟩:=h.heads_of hc 16 0 (fun _=>[]) [] s rfl ⟨fun c hc=>by omega,fun c hc=>by omega,fun c hc=>by omega⟩ rfl (by simp [allOf]) hr;have:s.length=S.taken.length:=by simpa using e
  exact ⟨ch,h1,by omega⟩
end Hp
open Go.RowKit Go.Maps
def KeyS (w:World) (g:Nat) (Ks:List (List Int)):Prop:=∃ D:DataW Unit,w.ownsMap Tryz.prog 152 (plainElem (H:=Unit) Tryz.prog 4) g Ks.length D /\ ∀ (l:List Int) (kl:Lit),keyOf Tryz.prog 152 (.agg (ints l).toArray)=some kl -> ∀ z,D.atKey kl z=if l ∈ Ks then .lit (.bool true) else z
namespace KeyS
variable {w w':World} {g:Nat} {Ks:List (List Int)}
theorem made (w:World):KeyS (w.alloc (.map #[] 0)) w.heap.size []:=
 ⟨_,World.ownsMap_made w Tryz.prog 152 (plainElem (H:=Unit) Tryz.prog 4),fun _ _ _ z=>by rw [if_neg (by simp)];rfl⟩
theorem lt (h:KeyS w g Ks):g < w.heap.size:=by
 obtain ⟨D,h1,_⟩:=h
 exact h1.lt
theorem ofBlock (h:KeyS w g Ks) (e:w'.heap[g]? = w.heap[g]?):KeyS w' g Ks:=by
 obtain ⟨D,⟨es,clock,hb,r⟩,h2⟩:=h
 exact ⟨D,⟨es,clock,e.trans hb,r⟩,h2⟩
theorem but (h:KeyS w g Ks) {l:List Nat} (k:But l w w') (hg:g ∉ l):KeyS w' g Ks:=h.ofBlock (k.block g h.lt hg)
theorem ext (h:KeyS w g Ks) (k:Ext w w'):KeyS w' g Ks:=h.ofBlock (k.block g h.lt)
theorem look (h:KeyS w g Ks) (hl:l.length=13) (hb:∀ x ∈ l,-9223372036854775808<=x/\x<=9223372036854775807) {b:Bool} (hn:decide (l ∈ Ks)=b):(Instr.lookup 149 (.map (some g)) (.agg (ints l).toArray) false).run Tryz.prog w = .ok (.bool b) w:=by
 obtain ⟨D,h1,h2⟩:=h
 obtain ⟨kl,hk⟩:=keyOf_cell hl hb
 obtain ⟨v,ps,hrun,hv⟩:=h1.lookup cellKeyed Tryz.underlying149 (Tryz.zeroValue4 w) (plainElem_bool Tryz.underlying4 false) hk
 rw [hrun]
 rw [h2 l kl hk] at hv
 subst hn
 by_cases e:l ∈ Ks
 . rw [if_pos e] at hv;rw [plainElem_bool_inv Tryz.underlying4 hv,decide_eq_true e]
 rw [if_neg e] at hv
 rw [plainElem_bool_inv Tryz.underlying4 hv,decide_eq_false e]
theorem put (h:KeyS w g Ks) (hl:l.length=13) (hb:∀ x ∈ l,-9223372036854775808<=x/\x<=9223372036854775807) (hn:Ks.length < maxLen):∃ w',(Instr.mapUpdate 149 (.map (some g)) (.agg (ints l).toArray) (.bool true)).run Tryz.prog w = .ok () w'/\KeyS w' g (l :: Ks)/\w.mapTurned w' g:=by
 obtain ⟨D,h1,h2⟩:=h
 obtain ⟨kl,hk⟩:=keyOf_cell hl hb
 obtain ⟨w',hrun,ho,ht⟩:=h1.store cellKeyed Tryz.underlying149 hn hk (plainElem_bool Tryz.underlying4 true)
 have hD:IsMap D:=by
  obtain ⟨es,e,_⟩:=h1.canon cellKeyed;exact ⟨es,e⟩
 refine ⟨w',hrun,⟨_,ho,fun l' kl' hk' z=>?_⟩,ht⟩
 by_cases e:l'=l
 . subst e;have:kl'=kl:=by rw [hk] at hk';exact (Option.some.inj hk').symm
   subst this;rw [if_pos (by simp)];exact atKey_put_same hD (cellKeyed.key hk) _ _
 rw [atKey_put_other (fun e2=>e ?_),h2 l' kl' hk' z]
 . simp [e]
 subst e2
 have h3:=Value.agg.inj (cellKeyed.inj hk' hk)
 exact ints_inj (List.toArray_inj h3)
end KeyS
structure Hp.CellsD (S:Hp.Hs) (D:List Nat):Prop where
 ends:∀ a ∈ D,Hp.isEnd (Hp.ow S.words a)=true -> -9999<=Hp.ow S.words (a+4)/\Hp.ow S.words (a+4)<=9999/\(20 < Hp.ow S.words a->Hp.ow S.words (a+4)=0)
 kids:∀ a ∈ D,∀ x ∈ Hp.kz (Hp.ow S.words) S.sizes a,∃ b ∈ S.taken,x=(b:Int)/\Hp.rank S.order (Hp.ow S.words a) < Hp.rank S.order (Hp.ow S.words b)
 flat:∀ a ∈ D,Hp.isEnd (Hp.ow S.words a)=false->Hp.Hs.alike (Hp.fz (Hp.ow S.words) S.sizes a)=false
 nodup:(D.reverse.map (keyL S)).Nodup
theorem Hp.CellsD.nil (S:Hp.Hs):Hp.CellsD S []:=⟨by simp,by simp,by simp,List.nodup_nil⟩
theorem Hp.CellsD.more {D:List Nat} {x:Nat} (h:Hp.CellsD S D) (h1:Hp.isEnd (Hp.ow S.words x)=true -> -9999<=Hp.ow S.words (x+4)/\Hp.ow S.words (x+4)<=9999/\(20 < Hp.ow S.words x->Hp.ow S.words (x+4)=0))
    (h2:∀ y ∈ Hp.kz (Hp.ow S.words) S.sizes x,∃ b ∈ S.taken,y=(b:Int)/\Hp.rank S.order (Hp.ow S.words x) < Hp.rank S.order (Hp.ow S.words b)) (h3:Hp.isEnd (Hp.ow S.words x)=false->Hp.Hs.alike (Hp.fz (Hp.ow S.words) S.sizes x)=false) (h4:keyL S x ∉ D.reverse.map (keyL S)):Hp.CellsD S (D ++ [x]) where
  ends:=fun a ha=>by
   rcases List.mem_append.1 ha with ha | ha
   . exact h.ends a ha
   rw [List.mem_singleton.1 ha];exact h1
  kids:=fun a ha=>by
   rcases List.mem_append.1 ha with ha | ha
   . exact h.kids a ha
   rw [List.mem_singleton.1 ha];exact h2
  flat:=fun a ha=>by
   rcases List.mem_append.1 ha with ha | ha
   . exact h.flat a ha
   rw [List.mem_singleton.1 ha];exact h3
  nodup:=by
   rw [List.reverse_append];exact List.nodup_cons.2 ⟨h4,h.nodup⟩
theorem nodup_map_inj {α β:Type} {f:α->β}:∀ {l:List α},(l.map f).Nodup -> ∀ a ∈ l,∀ b ∈ l,f a=f b->a=b
 | [],_,a,ha,_,_,_=>by cases ha
 | c :: r,h,a,ha,b,hb,e=>by
  rw [List.map_cons,List.nodup_cons] at h
  rcases List.mem_cons.1 ha with rfl | ha' <;> rcases List.mem_cons.1 hb with rfl | hb'
  . rfl
  . exact absurd (List.mem_map.2 ⟨b,hb',e.symm⟩) h.1
  . exact absurd (List.mem_map.2 ⟨a,ha',e⟩) h.1
  exact nodup_map_inj h.2 a ha' b hb' e
theorem Hp.CellsD.cells {D:List Nat} (h:Hp.CellsD S D) (hw:Hp.Tw S L) (hp:∀ a ∈ S.taken,a ∈ D):Hp.Cells (Hp.ow S.words) S.sizes S.order S.taken where
 tags:=fun a ha=>hw.tags ha
 ends:=fun a ha=>h.ends a (hp a ha)
 kids:=fun a ha=>h.kids a (hp a ha)
 flat:=fun a ha=>h.flat a (hp a ha)
 one:=fun a ha b hb e1 e2=>nodup_map_inj h.nodup a (by simpa using hp a ha) b (by simpa using hp b hb) (by unfold keyL;rw [e1,e2])
theorem Hp.Tw.keyL_len (h:Hp.Tw S L) (ha:a ∈ S.taken):(keyL S a).length=13:=by
 have:=h.part ha
 have:=Hp.fz_length (Hp.ow S.words) S.sizes a
 simp [keyL]
 omega
theorem ow_bd (h:∀ x ∈ W,-9223372036854775808<=x/\x<=9223372036854775807) (j:Nat) : -9223372036854775808<=Hp.ow W j/\Hp.ow W j<=9223372036854775807:=by
 unfold Hp.ow
 rw [List.getD_eq_getElem?_getD]
 cases e:W[j]? with
 | none=>simp
 | some x=>exact h x (List.mem_of_getElem? e)
theorem keyL_bd_ (h:∀ x ∈ S.words,-9223372036854775808<=x/\x<=9223372036854775807) (a:Nat):∀ x ∈ keyL S a,-9223372036854775808<=x/\x<=9223372036854775807:=fun x hx=>by
 unfold keyL at hx
 rcases List.mem_cons.1 hx with rfl | hx
 . exact ow_bd h a
 rcases List.mem_append.1 hx with hx | hx
 . obtain ⟨k,_,rfl⟩:=Hp.mem_cut.1 hx;exact ow_bd h _
 rw [List.eq_of_mem_replicate hx];omega
open Go.RowKit Go.Maps
set_option maxRecDepth 100000 in
set_option maxHeartbeats 16000000 in
theorem areCells_gen {v:Value} (h:LdAt w0 w lb d S v p k G) (hw:Hp.Tw S L) :
    Calls Tryz.prog 63 #[.pointer (some ⟨lb,0,none⟩)] w fun e w'=>∃ b,e = .returned (.bool b)/\Ext w w'/\(b=true->Hp.Cells (Hp.ow S.words) S.sizes S.order S.taken):=by
  have H:=hZ h;have WFW:=hZ h.words.wf;have HW:=hZ hw;have hhi:=hw.hi;have z1:=h.toHAt.own_lt;have zl:=h.lt1;clear h hw;have hmm:=@run_makeMap Tryz.prog;go_enter Tryz.func63,Tryz.ntmps63;go_upto_region 2 with (fail)
  have E0:Ext w ((w.alloc (.cells #[.pointer (some ⟨lb,0,none⟩)] 107)).alloc (.map #[] 0)):=exx;have x1:((w.alloc (.cells #[.pointer (some ⟨lb,0,none⟩)] 107)).alloc (.map #[] 0)).cell? ⟨w.heap.size,0,none⟩=some (.pointer (some ⟨lb,0,none⟩)):=by go_simp
  have sz:((w.alloc (.cells #[.pointer (some ⟨lb,0,none⟩)] 107)).alloc (.map #[] 0)).heap.size=w.heap.size+2:=by simp
  have MI0:KeyS ((w.alloc (.cells #[.pointer (some ⟨lb,0,none⟩)] 107)).alloc (.map #[] 0)) (w.heap.size+1) []:=by
   have:=KeyS.made (w.alloc (.cells #[.pointer (some ⟨lb,0,none⟩)] 107))
   simpa using this
  generalize (w.alloc (.cells #[.pointer (some ⟨lb,0,none⟩)] 107)).alloc (.map #[] 0)=wc at *;have N0:=hZ (H.out.ext E0);have h0:=N0.out.h0;have c3:=N0.out.c3;have ownd:=N0.out.map.owns
  go_wp2_with (at_range;refine wpList_range_own _ rfl _ 102 rfl 3 4 (int_keyed Tryz.underlying3) Tryz.underlying102 _ d.gm _ _ rfl ownd ?_;intro w1 hrg0 hg0 hs0;go_frame)
  have E1:Ext wc w1:=⟨hg0.os,hg0.tape,hg0.output,hg0.size,fun k hk=>hg0.block k hk (by simp)⟩
  have E01:=hZ (E0.trans E1);have MI1:=hZ (MI0.ext E1);have RG:=hZ hrg0;have Y:=hZ ((E1.cell (b:=w.heap.size) (by omega) 0).trans x1);have sz1:wc.heap.size < w1.heap.size:=by omega
  rw [sz] at sz1 RG ⊢;clear hrg0 ownd c3 h0 hg0 hs0 E1 E0 MI0 x1 N0 sz hmm;generalize hrr:w.heap.size+2=rr at RG sz1 ⊢
  go_loopg [4] (Maps.size (mapOf S.taken)) (fun g _ wr=>∃ (left:Lit->Bool) (cnt:Nat) (D:List Nat),cnt<=g/\Hid (wr.ranges Tryz.prog 3 (plainElem (H:=Unit) Tryz.prog 4) d.gm rr S.taken.length (mapOf S.taken) left cnt)/\Hid (KeyS wr (w.heap.size+1) (D.reverse.map (keyL S)))/\Hid (Ext w wr)/\Hid (wr.cell? ⟨w.heap.size,0,none⟩=some (.pointer (some ⟨lb,0,none⟩)))/\rr < wr.heap.size/\Aside (SeenInv S.taken D left/\Hp.CellsD S D))
  case atStart=>exact ⟨_,_,[],Nat.le_refl _,RG,MI1,E01,Y,by omega,⟨SeenInv.nil _,Hp.CellsD.nil _⟩⟩
  case round=>
   obtain ⟨left,cnt,D,hg,RR,MM,EE,YY,hrz,SI⟩:=hrel;clear RG MI1 E01 Y
   go_wp2_with (at_next;refine wpList_next_left _ rfl _ rfl Tryz.underlying3 Tryz.underlying4 d.gm rr _ S.taken left cnt rfl RR.out ?_ ?_)
   . intro hl
     go_wp2_with fail
     go_returns;have hpm:=SI.out.1.perm HW.out.nodup hl;exact ⟨true,rfl,EE.out,fun _=>SI.out.2.cells HW.out fun a ha=>hpm.mem_iff.2 ha⟩
   intro x c w' cnt' hx hlx hrg' hlt hbut hen;have E2:=hZ (But.toExt EE.out hbut (by simp;omega));have N:=hZ (H.out.ext E2.out);have h0:=N.out.h0;have c0:=N.out.c0;have c1:=N.out.c1;have y1:=(hbut.cell (cell_lt YY.out) (by simp;omega) 0).trans YY.out;have M2:=hZ (MM.out.but hbut (by simp;omega));have RN:=hZ hrg';have px:=HW.out.part hx;have S2H:=hZ (SI.out.1.step hx hlx);have CD:=hZ SI.out.2;have hrz2:rr < w'.heap.size:=Nat.lt_of_lt_of_le hrz hbut.size;obtain ⟨t,ht⟩:∃ t,Hp.ow S.words x=t:=⟨_,rfl⟩
   obtain ⟨fs,hfs⟩:∃ fs,Hp.fz (Hp.ow S.words) S.sizes x=fs:=⟨_,rfl⟩
   have ktag:=HW.out.tag_ hx;have kfld:=HW.out.fields_ hx;rw [ht] at ktag;rw [hfs] at kfld;have hto:=HW.out.tag_le hx;rw [ht] at hto;have hfl:=Hp.fz_length (Hp.ow S.words) S.sizes x;rw [hfs,ht] at hfl;have hwz:=Hp.wz_ok HW.out.fr.toFr (HW.out.tags hx);rw [ht] at hwz;have TAG:=hZ (fun W (hW:Ext w W)=>tag_any (H.out.toHAt.ext hW).c2 rfl (H.out.toHAt.ext hW).le (H.out.toHAt.ext hW).cap (H.out.toHAt.ext hW).words ktag);have FLD:=hZ (fun W (hW:Ext w W)=>fields_any (H.out.ext hW).toHAt kfld);have FAT:=hZ (fun W (hW:Ext w W)=>fields_at (H.out.ext hW).toHAt kfld);have RNK:=hZ (fun W (hW:Ext w W)=>rank_any (p:=d.sp) (n:=S.sizes.length) (c:=d.sc) (t:=t) (H.out.toHAt.ext hW).order (by omega) (by omega));obtain ⟨rk,hrk⟩:∃ rk,Hp.rank S.order t=rk:=⟨_,rfl⟩
   have HRK:=hZ hrk;rw [hrk] at RNK;clear hrk;clear hrg' hlx px YY EE RR MM SI ktag kfld hbut;have f0:0 < fs.length:=by omega
   have f12:fs.length<=12:=by omega
   have HFL:=hZ hfl;have hwz5:0 < Hp.wz S.sizes t-4:=by omega
   clear hfl hwz;obtain ⟨q0,hq0⟩:=rd_get f0;have HQ0:=hZ hq0;have hfs1:((fs.length:Nat):Int) > 0:=by omega
   clear hq0
   go_upto_region 9 with (first
    | (go_at_call 76;refine (TAG.out _ E2.out).mono ?_;rintro e w5 ⟨rfl,hE5⟩;have N5:=hZ (N.out.ext hE5);have h05:=N5.out.h0;have c05:=N5.out.c0;have c15:=N5.out.c1;have y5:=(hE5.cell (cell_lt y1) 0).trans y1)
    | (go_at_call 126;refine (RNK.out _ (E2.out.trans hE5)).mono ?_;rintro e w6 ⟨rfl,hE6⟩;have EX6:Ext w5 (w6.alloc (.cells #[.int .i64 rk] 3)):=hE6.alloc _;have N6:=hZ (N5.out.ext EX6);have h06:=N6.out.h0;have y6:=(EX6.cell (cell_lt y5) 0).trans y5;have k6:(w6.alloc (.cells #[.int .i64 rk] 3)).cell? ⟨w6.heap.size,0,none⟩=some (.int .i64 rk):=by go_simp)
    | (go_at_call 79;refine (FLD.out _ (E2.out.trans (hE5.trans EX6))).mono ?_;rintro e w8 ⟨rfl,hE8⟩;have N8:=hZ (N6.out.ext hE8);have h08:=N8.out.h0;have y8:=(hE8.cell (cell_lt y6) 0).trans y6;have k8:=(hE8.cell (cell_lt k6) 0).trans k6;obtain ⟨_,_,eq8,_,hc8⟩:=(FAT.out _ (E2.out.trans (hE5.trans (EX6.trans hE8)))).cells f0;cases eq8;have g8:=hc8 0 _ HQ0.out;rw [Nat.add_zero] at g8;clear hc8))
   have E8:=hZ (E2.out.trans (hE5.trans (EX6.trans hE8)));have B8:Ext w' w8:=hE5.trans (EX6.trans hE8);have M8:=hZ (M2.out.ext B8);have R8:=hZ (ranges_of RN.out (B8.block _ (by have:=RN.out.lt;have:=N.out.map.lt;omega)) (B8.block _ RN.out.lt));have hrz8:=Nat.lt_of_lt_of_le hrz2 B8.le;have hbr:w'.heap.size<=w6.heap.size:=(hE5.trans hE6).le;generalize w6.heap.size=br at *;clear hE5 hE6 EX6 hE8 B8 N5 N6 h05 c05 c15 y5 h06 y6 k6 N h0 c0 c1 y1 M2 RN E2 RNK TAG
   cases he:Hp.isEnd t with
   | true=>
    have hE2:Hp.isEnd (Hp.ow S.words x)=true:=by rw [ht];exact he
    have hq4:Hp.ow S.words (x+4)=q0:=by
     have h1:=HQ0.out;rw [<- hfs] at h1;unfold Hp.rd Hp.fz at h1;rw [Hp.cut_get (by rw [ht];exact hwz5)] at h1
     simpa using h1
    have IS:=hZ (fun W=>isEnd_is he W);have HQ4:=hZ hq4;have HE2:=hZ hE2;have nokids:Hp.kz (Hp.ow S.words) S.sizes x=[]:=by unfold Hp.kz;rw [hE2];rfl
    have NK:=hZ nokids;clear hE2 hq4 nokids
    cases hin:Hp.within (-9999) 9999 q0 with
    | false=>
     have WI:=hZ (fun W=>hin ▸ within_any (-9999) 9999 q0 W);clear hin
     go_wp2_with (first
      | (go_at_call 78;refine (IS.out _).mono ?_;rintro e w9 ⟨rfl,hE9⟩)
      | (go_at_call 105;refine (WI.out _).mono ?_;rintro e wz ⟨rfl,hEz⟩))
     go_returns;exact ⟨false,rfl,E8.out.trans (hE9.trans hEz),fun e=>by cases e⟩
    | true=>
     have WI:=hZ (fun W=>hin ▸ within_any (-9999) 9999 q0 W);have hin2 : -9999<=q0/\q0<=9999:=by simpa [Hp.within] using hin
     have HIN:=hZ hin2;clear hin hin2
     by_cases h20:t > 20
     . have u0:decide (t > 20)=true:=decide_eq_true h20;have u1:decide (20 < t)=true:=decide_eq_true h20
       by_cases hq:q0=0
       . have CDX:=hZ (CD.out.more (x:=x) (fun _=>by rw [HQ4.out];exact ⟨HIN.out.1,HIN.out.2,fun _=>hq⟩) (fun y hy=>by rw [NK.out] at hy;cases hy) (fun e=>by rw [HE2.out] at e;cases e))
         subst hq;have u2:((0:Int) != 0)=false:=by decide
         clear h20
         go_upto_region 16 with (first
          | (go_at_call 78;refine (IS.out _).mono ?_;rintro e w9 ⟨rfl,hE9⟩)
          | (go_at_call 105;refine (WI.out _).mono ?_;rintro e wz ⟨rfl,hEz⟩))
         have EZ:Ext w8 wz:=hE9.trans hEz;have E10:Ext w8 (wz.alloc (.cells #[.int .i64 t,.int .i64 0,.int .i64 0,.int .i64 0,.int .i64 0,.int .i64 0,.int .i64 0,.int .i64 0,.int .i64 0,.int .i64 0,.int .i64 0,.int .i64 0,.int .i64 0] 152)):=EZ.alloc _;have hg10:(wz.alloc (.cells #[.int .i64 t,.int .i64 0,.int .i64 0,.int .i64 0,.int .i64 0,.int .i64 0,.int .i64 0,.int .i64 0,.int .i64 0,.int .i64 0,.int .i64 0,.int .i64 0,.int .i64 0] 152)).heap[wz.heap.size]? = some (.cells (ints (t :: List.replicate 12 0)).toArray 152 (0,0)):=by
          have:=World.alloc_heap_new wz (.cells #[.int .i64 t,.int .i64 0,.int .i64 0,.int .i64 0,.int .i64 0,.int .i64 0,.int .i64 0,.int .i64 0,.int .i64 0,.int .i64 0,.int .i64 0,.int .i64 0,.int .i64 0] 152)
          simpa [ints] using this
         have zcb:w8.heap.size<=wz.heap.size:=EZ.le;generalize wz.heap.size=cb at *;generalize wz.alloc (.cells #[.int .i64 t,.int .i64 0,.int .i64 0,.int .i64 0,.int .i64 0,.int .i64 0,.int .i64 0,.int .i64 0,.int .i64 0,.int .i64 0,.int .i64 0,.int .i64 0,.int .i64 0] 152)=wt at *;have N10:=hZ (N8.out.ext E10);have h10:=N10.out.h0;have y10:=(E10.cell (cell_lt y8) 0).trans y8;have zy:=cell_lt y10;have zh:=cell_lt h10;have EE10:=hZ (E8.out.trans E10);refine wp_region_any (by kernel_rfl) ?_;have pr41a:=fun u_ (h_:Ext wt u_)=>(h_.cell zy 0).trans y10
         have pr41b:=fun u_ (h_:Ext wt u_)=>(h_.cell zh 0).trans h10
         refine wpAny_to_X (S:=fun W=>Ext wt W) (R:=Ext) 8 8 Ext.refl ?_ ?_ (by rfl)
         . exact Ext.drew exx
         refine' tkY 0 ?_;refine' tkY 1 ?_;refine' tkY 2 ?_;refine' tkY 3 ?_;refine' tkY 4 ?_;refine' tkY 5 ?_;refine' tkY 6 ?_;refine' tkX 7 (v:=.slice (some ⟨d.gw,x+4,none⟩) fs.length fs.length) rfl (Or.inr ⟨by rfl,79,_, ?hx7_828, ?hy7_828⟩) ?rest7_828
         case hx7_828=>(intro w hSw;go_simp;try with_reducible rfl)
         case hy7_828=>exact fun w hE=>(FLD.out _ (EE10.out.trans hE)).mono (fun _ _ h=>⟨h.1,h.2,Ext.trans hE h.2⟩)
         refine layy ?_;refine wpAnyX_done (by kernel_rfl) ?_;intro x1 _ Ex1;clear pr41a pr41b;simp only [List.drop_succ_cons,List.drop_zero];have hg11:x1.heap[cb]? = some (.cells (ints (t :: List.replicate 12 0)).toArray 152 (0,0)):=(Ex1.block _ (Array.getElem?_eq_some_iff.1 hg10).1).trans hg10;obtain ⟨x2,hcp,hg12,hb12⟩:=cell_copied hg11 (FAT.out _ (EE10.out.trans Ex1)) f0 f12;have E12:=hZ (But.toExt EE10.out (But.trans (But.ofExt (l:=[cb]) Ex1) hb12) (by have:=E8.out.le;simp;omega));have B12:But [cb] w8 x2:=(But.ofExt E10).trans ((But.ofExt (l:=[cb]) Ex1).trans hb12);have M12:=hZ (M8.out.but B12 (by have:=M8.out.lt;simp;omega));have y12:=(B12.cell (cell_lt y8) (by have:=cell_lt y8;simp;omega) 0).trans y8;have hk13:=HW.out.keyL_len hx;have hkbd:=keyL_bd_ WFW.out x;have hkeq:keyL S x=t :: (fs ++ List.replicate (12-fs.length) 0):=by unfold keyL;rw [ht,hfs]
         rw [<- hkeq] at hg12
         by_cases hmem:keyL S x ∈ D.reverse.map (keyL S)
         . have hlk:=M12.out.look hk13 hkbd (decide_eq_true hmem);obtain ⟨a0,a1,a2,a3,a4,a5,a6,a7,a8,a9,a10,a11,a12,hkl⟩:=list13 hk13;rw [hkl] at hg12 hlk;simp only [ints,List.map_cons,List.map_nil] at hg12 hlk;have QC:∀ (j:Nat) (v:Value),(#[.int .i64 a0,.int .i64 a1,.int .i64 a2,.int .i64 a3,.int .i64 a4,.int .i64 a5,.int .i64 a6,.int .i64 a7,.int .i64 a8,.int .i64 a9,.int .i64 a10,.int .i64 a11,.int .i64 a12]:Array Value)[j]? = some v->x2.cell? ⟨cb,j,none⟩=some v:=fun j v hv=>by simp only [World.cell?,hg12];exact hv
           have qc0:=QC 0 _ rfl;have qc1:=QC 1 _ rfl;have qc2:=QC 2 _ rfl;have qc3:=QC 3 _ rfl;have qc4:=QC 4 _ rfl;have qc5:=QC 5 _ rfl;have qc6:=QC 6 _ rfl;have qc7:=QC 7 _ rfl;have qc8:=QC 8 _ rfl;have qc9:=QC 9 _ rfl;have qc10:=QC 10 _ rfl;have qc11:=QC 11 _ rfl;have qc12:=QC 12 _ rfl;clear QC hkl hk13 hkbd hkeq hg12 hg11 hg10 B12 hb12 y12 zy zh h10 y10 E10 EZ N10
           go_wp2_with fail
           go_returns;exact ⟨false,rfl,E12.out,fun e=>by cases e⟩
         have hlk:=M12.out.look hk13 hkbd (decide_eq_false hmem);have hDl:(D.reverse.map (keyL S)).length < maxLen:=by
          rw [List.length_map,List.length_reverse];have h1:=Hp.nodup_len (l:=D) (m:=S.taken) (List.nodup_append.1 S2H.out.nd).1 (fun y hy=>S2H.out.sub y (by simp [hy]));have:=HW.out.few;unfold maxLen;omega
         obtain ⟨x3,hup,hM13,hT13⟩:=M12.out.put hk13 hkbd hDl;have B13:But [w.heap.size+1] x2 x3:=(But.refl _ _).turned hT13 (.inl (by simp));have E13:=hZ (But.toExt E12.out B13 (by simp));have M13:Hid (KeyS x3 (w.heap.size+1) ((D ++ [x]).reverse.map (keyL S))):=hZ (by rw [List.reverse_append];exact hM13);have z8:=E8.out.le;have own1:=z1 _ d.gm_own;have R13:=hZ (ranges_of (ranges_of R8.out (B12.block _ (by omega) (by simp;omega)) (B12.block _ R8.out.lt (by have:=R8.out.lt;simp;omega))) (B13.block _ (by have:=B12.size;omega) (by simp;omega)) (B13.block _ (by have:=R8.out.lt;have:=B12.size;omega) (by simp;omega)));have Y13:=hZ ((B13.cell (cell_lt y12) (by simp) 0).trans y12);have hrz13:rr < x3.heap.size:=by have:=B12.size;have:=B13.size;omega
         obtain ⟨a0,a1,a2,a3,a4,a5,a6,a7,a8,a9,a10,a11,a12,hkl⟩:=list13 hk13;rw [hkl] at hg12 hlk hup;simp only [ints,List.map_cons,List.map_nil] at hg12 hlk hup;have QC:∀ (j:Nat) (v:Value),(#[.int .i64 a0,.int .i64 a1,.int .i64 a2,.int .i64 a3,.int .i64 a4,.int .i64 a5,.int .i64 a6,.int .i64 a7,.int .i64 a8,.int .i64 a9,.int .i64 a10,.int .i64 a11,.int .i64 a12]:Array Value)[j]? = some v->x2.cell? ⟨cb,j,none⟩=some v:=fun j v hv=>by simp only [World.cell?,hg12];exact hv
         have qc0:=QC 0 _ rfl;have qc1:=QC 1 _ rfl;have qc2:=QC 2 _ rfl;have qc3:=QC 3 _ rfl;have qc4:=QC 4 _ rfl;have qc5:=QC 5 _ rfl;have qc6:=QC 6 _ rfl;have qc7:=QC 7 _ rfl;have qc8:=QC 8 _ rfl;have qc9:=QC 9 _ rfl;have qc10:=QC 10 _ rfl;have qc11:=QC 11 _ rfl;have qc12:=QC 12 _ rfl;clear QC hkl hk13 hkbd hkeq hg12 hg11 hg10 hM13 hT13 B13 B12 hDl own1 z8 hb12 y12 zy zh h10 y10 E10 EZ N10
         go_wp2_with fail
         go_roundg cnt'
         case measure=>omega
         case rel=>exact ⟨_,cnt',D ++ [x],Nat.le_refl _,R13,M13,E13,Y13,hrz13,(show Aside _ from ⟨S2H.out,CDX.out hmem⟩)⟩
       have u2:(q0 != 0)=true:=by simpa using hq
       clear h20
       go_wp2_with (first
        | (go_at_call 78;refine (IS.out _).mono ?_;rintro e w9 ⟨rfl,hE9⟩)
        | (go_at_call 105;refine (WI.out _).mono ?_;rintro e wz ⟨rfl,hEz⟩))
       go_returns;exact ⟨false,rfl,E8.out.trans (hE9.trans hEz),fun e=>by cases e⟩
     have u0:decide (t > 20)=false:=decide_eq_false h20;have u1:decide (20 < t)=false:=decide_eq_false h20;have CDX:=hZ (CD.out.more (x:=x) (fun _=>by rw [HQ4.out,ht];exact ⟨HIN.out.1,HIN.out.2,fun e=>absurd e h20⟩) (fun y hy=>by rw [NK.out] at hy;cases hy) (fun e=>by rw [HE2.out] at e;cases e))
     clear h20
     go_upto_region 16 with (first
      | (go_at_call 78;refine (IS.out _).mono ?_;rintro e w9 ⟨rfl,hE9⟩)
      | (go_at_call 105;refine (WI.out _).mono ?_;rintro e wz ⟨rfl,hEz⟩))
     have EZ:Ext w8 wz:=hE9.trans hEz;have E10:Ext w8 (wz.alloc (.cells #[.int .i64 t,.int .i64 0,.int .i64 0,.int .i64 0,.int .i64 0,.int .i64 0,.int .i64 0,.int .i64 0,.int .i64 0,.int .i64 0,.int .i64 0,.int .i64 0,.int .i64 0] 152)):=EZ.alloc _;have hg10:(wz.alloc (.cells #[.int .i64 t,.int .i64 0,.int .i64 0,.int .i64 0,.int .i64 0,.int .i64 0,.int .i64 0,.int .i64 0,.int .i64 0,.int .i64 0,.int .i64 0,.int .i64 0,.int .i64 0] 152)).heap[wz.heap.size]? = some (.cells (ints (t :: List.replicate 12 0)).toArray 152 (0,0)):=by
      have:=World.alloc_heap_new wz (.cells #[.int .i64 t,.int .i64 0,.int .i64 0,.int .i64 0,.int .i64 0,.int .i64 0,.int .i64 0,.int .i64 0,.int .i64 0,.int .i64 0,.int .i64 0,.int .i64 0,.int .i64 0] 152)
      simpa [ints] using this
     have zcb:w8.heap.size<=wz.heap.size:=EZ.le;generalize wz.heap.size=cb at *;generalize wz.alloc (.cells #[.int .i64 t,.int .i64 0,.int .i64 0,.int .i64 0,.int .i64 0,.int .i64 0,.int .i64 0,.int .i64 0,.int .i64 0,.int .i64 0,.int .i64 0,.int .i64 0,.int .i64 0] 152)=wt at *;have N10:=hZ (N8.out.ext E10);have h10:=N10.out.h0;have y10:=(E10.cell (cell_lt y8) 0).trans y8;have zy:=cell_lt y10;have zh:=cell_lt h10;have EE10:=hZ (E8.out.trans E10);refine wp_region_any (by kernel_rfl) ?_;have pr42a:=fun u_ (h_:Ext wt u_)=>(h_.cell zy 0).trans y10
     have pr42b:=fun u_ (h_:Ext wt u_)=>(h_.cell zh 0).trans h10
     refine wpAny_to_X (S:=fun W=>Ext wt W) (R:=Ext) 8 8 Ext.refl ?_ ?_ (by rfl)
     . exact Ext.drew exx
     refine' tkY 0 ?_;refine' tkY 1 ?_;refine' tkY 2 ?_;refine' tkY 3 ?_;refine' tkY 4 ?_;refine' tkY 5 ?_;refine' tkY 6 ?_;refine' tkX 7 (v:=.slice (some ⟨d.gw,x+4,none⟩) fs.length fs.length) rfl (Or.inr ⟨by rfl,79,_, ?hx7_836, ?hy7_836⟩) ?rest7_836
     case hx7_836=>(intro w hSw;go_simp;try with_reducible rfl)
     case hy7_836=>exact fun w hE=>(FLD.out _ (EE10.out.trans hE)).mono (fun _ _ h=>⟨h.1,h.2,Ext.trans hE h.2⟩)
     refine layy ?_;refine wpAnyX_done (by kernel_rfl) ?_;intro x1 _ Ex1;clear pr42a pr42b;simp only [List.drop_succ_cons,List.drop_zero];have hg11:x1.heap[cb]? = some (.cells (ints (t :: List.replicate 12 0)).toArray 152 (0,0)):=(Ex1.block _ (Array.getElem?_eq_some_iff.1 hg10).1).trans hg10;obtain ⟨x2,hcp,hg12,hb12⟩:=cell_copied hg11 (FAT.out _ (EE10.out.trans Ex1)) f0 f12;have E12:=hZ (But.toExt EE10.out (But.trans (But.ofExt (l:=[cb]) Ex1) hb12) (by have:=E8.out.le;simp;omega));have B12:But [cb] w8 x2:=(But.ofExt E10).trans ((But.ofExt (l:=[cb]) Ex1).trans hb12);have M12:=hZ (M8.out.but B12 (by have:=M8.out.lt;simp;omega));have y12:=(B12.cell (cell_lt y8) (by have:=cell_lt y8;simp;omega) 0).trans y8;have hk13:=HW.out.keyL_len hx;have hkbd:=keyL_bd_ WFW.out x;have hkeq:keyL S x=t :: (fs ++ List.replicate (12-fs.length) 0):=by unfold keyL;rw [ht,hfs]
     rw [<- hkeq] at hg12
     by_cases hmem:keyL S x ∈ D.reverse.map (keyL S)
     . have hlk:=M12.out.look hk13 hkbd (decide_eq_true hmem);obtain ⟨a0,a1,a2,a3,a4,a5,a6,a7,a8,a9,a10,a11,a12,hkl⟩:=list13 hk13;rw [hkl] at hg12 hlk;simp only [ints,List.map_cons,List.map_nil] at hg12 hlk;have QC:∀ (j:Nat) (v:Value),(#[.int .i64 a0,.int .i64 a1,.int .i64 a2,.int .i64 a3,.int .i64 a4,.int .i64 a5,.int .i64 a6,.int .i64 a7,.int .i64 a8,.int .i64 a9,.int .i64 a10,.int .i64 a11,.int .i64 a12]:Array Value)[j]? = some v->x2.cell? ⟨cb,j,none⟩=some v:=fun j v hv=>by simp only [World.cell?,hg12];exact hv
       have qc0:=QC 0 _ rfl;have qc1:=QC 1 _ rfl;have qc2:=QC 2 _ rfl;have qc3:=QC 3 _ rfl;have qc4:=QC 4 _ rfl;have qc5:=QC 5 _ rfl;have qc6:=QC 6 _ rfl;have qc7:=QC 7 _ rfl;have qc8:=QC 8 _ rfl;have qc9:=QC 9 _ rfl;have qc10:=QC 10 _ rfl;have qc11:=QC 11 _ rfl;have qc12:=QC 12 _ rfl;clear QC hkl hk13 hkbd hkeq hg12 hg11 hg10 B12 hb12 y12 zy zh h10 y10 E10 EZ N10
       go_wp2_with fail
       go_returns;exact ⟨false,rfl,E12.out,fun e=>by cases e⟩
     have hlk:=M12.out.look hk13 hkbd (decide_eq_false hmem);have hDl:(D.reverse.map (keyL S)).length < maxLen:=by
      rw [List.length_map,List.length_reverse];have h1:=Hp.nodup_len (l:=D) (m:=S.taken) (List.nodup_append.1 S2H.out.nd).1 (fun y hy=>S2H.out.sub y (by simp [hy]));have:=HW.out.few;unfold maxLen;omega
     obtain ⟨x3,hup,hM13,hT13⟩:=M12.out.put hk13 hkbd hDl;have B13:But [w.heap.size+1] x2 x3:=(But.refl _ _).turned hT13 (.inl (by simp));have E13:=hZ (But.toExt E12.out B13 (by simp));have M13:Hid (KeyS x3 (w.heap.size+1) ((D ++ [x]).reverse.map (keyL S))):=hZ (by rw [List.reverse_append];exact hM13);have z8:=E8.out.le;have own1:=z1 _ d.gm_own;have R13:=hZ (ranges_of (ranges_of R8.out (B12.block _ (by omega) (by simp;omega)) (B12.block _ R8.out.lt (by have:=R8.out.lt;simp;omega))) (B13.block _ (by have:=B12.size;omega) (by simp;omega)) (B13.block _ (by have:=R8.out.lt;have:=B12.size;omega) (by simp;omega)));have Y13:=hZ ((B13.cell (cell_lt y12) (by simp) 0).trans y12);have hrz13:rr < x3.heap.size:=by have:=B12.size;have:=B13.size;omega
     obtain ⟨a0,a1,a2,a3,a4,a5,a6,a7,a8,a9,a10,a11,a12,hkl⟩:=list13 hk13;rw [hkl] at hg12 hlk hup;simp only [ints,List.map_cons,List.map_nil] at hg12 hlk hup;have QC:∀ (j:Nat) (v:Value),(#[.int .i64 a0,.int .i64 a1,.int .i64 a2,.int .i64 a3,.int .i64 a4,.int .i64 a5,.int .i64 a6,.int .i64 a7,.int .i64 a8,.int .i64 a9,.int .i64 a10,.int .i64 a11,.int .i64 a12]:Array Value)[j]? = some v->x2.cell? ⟨cb,j,none⟩=some v:=fun j v hv=>by simp only [World.cell?,hg12];exact hv
     have qc0:=QC 0 _ rfl;have qc1:=QC 1 _ rfl;have qc2:=QC 2 _ rfl;have qc3:=QC 3 _ rfl;have qc4:=QC 4 _ rfl;have qc5:=QC 5 _ rfl;have qc6:=QC 6 _ rfl;have qc7:=QC 7 _ rfl;have qc8:=QC 8 _ rfl;have qc9:=QC 9 _ rfl;have qc10:=QC 10 _ rfl;have qc11:=QC 11 _ rfl;have qc12:=QC 12 _ rfl;clear QC hkl hk13 hkbd hkeq hg12 hg11 hg10 hM13 hT13 B13 B12 hDl own1 z8 hb12 y12 zy zh h10 y10 E10 EZ N10
     go_wp2_with fail
     go_roundg cnt'
     case measure=>omega
     case rel=>exact ⟨_,cnt',D ++ [x],Nat.le_refl _,R13,M13,E13,Y13,hrz13,(show Aside _ from ⟨S2H.out,CDX.out hmem⟩)⟩
   | false=>
    have kkid:=HW.out.kids_ hx;have hkf:Hp.kz (Hp.ow S.words) S.sizes x=fs:=by
     unfold Hp.kz;rw [ht,he,hfs];rfl
    rw [hkf] at kkid;have ktag:=HW.out.tag_ hx;rw [ht] at ktag;have hkp:kp d x t=some ⟨d.gw,x+4,none⟩:=by simp [kp,he]
    have KIDS:=hZ (fun W (hW:Ext w W)=>hkp ▸ kids_any (H.out.ext hW).toHAt ktag kkid);have IS:=hZ (fun W=>isEnd_is he W);have zy8:=cell_lt y8;have zk8:=cell_lt k8;have HKF:=hZ hkf;obtain ⟨be,hbe⟩:∃ be,fs.all (Hp.laterB S rk)=be:=⟨_,rfl⟩
    have HBE:=hZ hbe;have EV:Hid (∀ W,Ext w8 W->Calls Tryz.prog 124 #[.slice (some ⟨d.gw,x+4,none⟩) fs.length fs.length,.func (.func 127) #[] #[.pointer (some ⟨w.heap.size,0,none⟩),.pointer (some ⟨br,0,none⟩)]] W fun e w'=>e = .returned (.bool be)/\Ext W w'):=hZ (fun W hW=>by
     refine every_any (is:=Hp.laterB S rk) (enters_of Tryz.func127 (by kernel_rfl) rfl) (FAT.out W (E8.out.trans hW)) (fun j y hy _ W' hW'=>?_) HBE.out;have hm:=(FAT.out W (E8.out.trans hW)).wf y (List.mem_of_getElem? hy);have EX:=hW.trans hW';have hc:=areCells1_any (x:=y) (r:=rk) (H.out.ext (E8.out.trans EX)) ((EX.cell zy8 0).trans y8) ((EX.cell zk8 0).trans k8) HW.out.tagsOk hm.1 hm.2
     simpa using hc)
    clear hbe
    cases be with
    | false=>
     clear kkid hkf ktag hkp
     go_wp2_with (first
      | (go_at_call 78;refine (IS.out _).mono ?_;rintro e w9 ⟨rfl,hE9⟩;have h09:=(N8.out.ext hE9).h0;have y9:=(hE9.cell zy8 0).trans y8)
      | (go_at_call 109;refine (AL.out _ (hE9.trans (hEk.trans (hEe.trans hEl)))).mono ?_;rintro e wz ⟨rfl,hEz⟩)
      | (go_at_call 124;refine (EV.out _ (hE9.trans hEk)).mono ?_;rintro e we ⟨rfl,hEe⟩;have h0e:=(N8.out.ext (hE9.trans (hEk.trans hEe))).h0;have ye:=((hE9.trans (hEk.trans hEe)).cell zy8 0).trans y8)
      | (go_at_call 80;refine (KIDS.out _ (E8.out.trans hE9)).mono ?_;rintro e wk ⟨rfl,hEk⟩)
      | (go_at_call 80;refine (KIDS.out _ (E8.out.trans (hE9.trans (hEk.trans hEe)))).mono ?_;rintro e wl ⟨rfl,hEl⟩))
     go_returns;exact ⟨false,rfl,E8.out.trans (hE9.trans (hEk.trans hEe)),fun e=>by cases e⟩
    | true=>
     obtain ⟨ba,hba⟩:∃ ba,Hp.Hs.alike fs=ba:=⟨_,rfl⟩
     have HBA:=hZ hba;have AL:Hid (∀ W,Ext w8 W->Calls Tryz.prog 109 #[.slice (some ⟨d.gw,x+4,none⟩) fs.length fs.length] W fun e w'=>e = .returned (.bool ba)/\Ext W w'):=hZ (fun W hW=>alike_any (FAT.out W (E8.out.trans hW)) f0 HBA.out);clear hba
     cases ba with
     | true=>
      clear kkid hkf ktag hkp
      go_wp2_with (first
       | (go_at_call 78;refine (IS.out _).mono ?_;rintro e w9 ⟨rfl,hE9⟩;have h09:=(N8.out.ext hE9).h0;have y9:=(hE9.cell zy8 0).trans y8)
       | (go_at_call 109;refine (AL.out _ (hE9.trans (hEk.trans (hEe.trans hEl)))).mono ?_;rintro e wz ⟨rfl,hEz⟩)
       | (go_at_call 124;refine (EV.out _ (hE9.trans hEk)).mono ?_;rintro e we ⟨rfl,hEe⟩;have h0e:=(N8.out.ext (hE9.trans (hEk.trans hEe))).h0;have ye:=((hE9.trans (hEk.trans hEe)).cell zy8 0).trans y8)
       | (go_at_call 80;refine (KIDS.out _ (E8.out.trans hE9)).mono ?_;rintro e wk ⟨rfl,hEk⟩)
       | (go_at_call 80;refine (KIDS.out _ (E8.out.trans (hE9.trans (hEk.trans hEe)))).mono ?_;rintro e wl ⟨rfl,hEl⟩))
      go_returns;exact ⟨false,rfl,E8.out.trans (hE9.trans (hEk.trans (hEe.trans (hEl.trans hEz)))),fun e=>by cases e⟩
     | false=>
      have CDX:=hZ (CD.out.more (x:=x) (fun e=>by rw [ht,he] at e;cases e) (fun y hy=>by
       rw [HKF.out] at hy;have hl:=List.all_eq_true.1 HBE.out y hy;unfold Hp.laterB at hl;simp only [Bool.and_eq_true] at hl;obtain ⟨b,rfl,hb⟩:=has_nat hl.1;have hl2:=hl.2;have pb:=HW.out.part hb;rw [Int.toNat_natCast,Hp.rd_ow (by omega)] at hl2;refine ⟨b,hb,rfl, ?_⟩;rw [ht,HRK.out]
       simpa using hl2) (fun _=>by rw [hfs];exact HBA.out))
      clear kkid hkf ktag hkp
      go_upto_region 16 with (first
       | (go_at_call 78;refine (IS.out _).mono ?_;rintro e w9 ⟨rfl,hE9⟩;have h09:=(N8.out.ext hE9).h0;have y9:=(hE9.cell zy8 0).trans y8)
       | (go_at_call 109;refine (AL.out _ (hE9.trans (hEk.trans (hEe.trans hEl)))).mono ?_;rintro e wz ⟨rfl,hEz⟩)
       | (go_at_call 124;refine (EV.out _ (hE9.trans hEk)).mono ?_;rintro e we ⟨rfl,hEe⟩;have h0e:=(N8.out.ext (hE9.trans (hEk.trans hEe))).h0;have ye:=((hE9.trans (hEk.trans hEe)).cell zy8 0).trans y8)
       | (go_at_call 80;refine (KIDS.out _ (E8.out.trans hE9)).mono ?_;rintro e wk ⟨rfl,hEk⟩)
       | (go_at_call 80;refine (KIDS.out _ (E8.out.trans (hE9.trans (hEk.trans hEe)))).mono ?_;rintro e wl ⟨rfl,hEl⟩))
      have EZ:Ext w8 wz:=hE9.trans (hEk.trans (hEe.trans (hEl.trans hEz)));clear zy8 zk8 h09 y9 h0e ye;have E10:Ext w8 (wz.alloc (.cells #[.int .i64 t,.int .i64 0,.int .i64 0,.int .i64 0,.int .i64 0,.int .i64 0,.int .i64 0,.int .i64 0,.int .i64 0,.int .i64 0,.int .i64 0,.int .i64 0,.int .i64 0] 152)):=EZ.alloc _;have hg10:(wz.alloc (.cells #[.int .i64 t,.int .i64 0,.int .i64 0,.int .i64 0,.int .i64 0,.int .i64 0,.int .i64 0,.int .i64 0,.int .i64 0,.int .i64 0,.int .i64 0,.int .i64 0,.int .i64 0] 152)).heap[wz.heap.size]? = some (.cells (ints (t :: List.replicate 12 0)).toArray 152 (0,0)):=by
       have:=World.alloc_heap_new wz (.cells #[.int .i64 t,.int .i64 0,.int .i64 0,.int .i64 0,.int .i64 0,.int .i64 0,.int .i64 0,.int .i64 0,.int .i64 0,.int .i64 0,.int .i64 0,.int .i64 0,.int .i64 0] 152)
       simpa [ints] using this
      have zcb:w8.heap.size<=wz.heap.size:=EZ.le;generalize wz.heap.size=cb at *;generalize wz.alloc (.cells #[.int .i64 t,.int .i64 0,.int .i64 0,.int .i64 0,.int .i64 0,.int .i64 0,.int .i64 0,.int .i64 0,.int .i64 0,.int .i64 0,.int .i64 0,.int .i64 0,.int .i64 0] 152)=wt at *;have N10:=hZ (N8.out.ext E10);have h10:=N10.out.h0;have y10:=(E10.cell (cell_lt y8) 0).trans y8;have zy:=cell_lt y10;have zh:=cell_lt h10;have EE10:=hZ (E8.out.trans E10);refine wp_region_any (by kernel_rfl) ?_;have pr43a:=fun u_ (h_:Ext wt u_)=>(h_.cell zy 0).trans y10
      have pr43b:=fun u_ (h_:Ext wt u_)=>(h_.cell zh 0).trans h10
      refine wpAny_to_X (S:=fun W=>Ext wt W) (R:=Ext) 8 8 Ext.refl ?_ ?_ (by rfl)
      . exact Ext.drew exx
      refine' tkY 0 ?_;refine' tkY 1 ?_;refine' tkY 2 ?_;refine' tkY 3 ?_;refine' tkY 4 ?_;refine' tkY 5 ?_;refine' tkY 6 ?_;refine' tkX 7 (v:=.slice (some ⟨d.gw,x+4,none⟩) fs.length fs.length) rfl (Or.inr ⟨by rfl,79,_, ?hx7_844, ?hy7_844⟩) ?rest7_844
      case hx7_844=>(intro w hSw;go_simp;try with_reducible rfl)
      case hy7_844=>exact fun w hE=>(FLD.out _ (EE10.out.trans hE)).mono (fun _ _ h=>⟨h.1,h.2,Ext.trans hE h.2⟩)
      refine layy ?_;refine wpAnyX_done (by kernel_rfl) ?_;intro x1 _ Ex1;clear pr43a pr43b;simp only [List.drop_succ_cons,List.drop_zero];have hg11:x1.heap[cb]? = some (.cells (ints (t :: List.replicate 12 0)).toArray 152 (0,0)):=(Ex1.block _ (Array.getElem?_eq_some_iff.1 hg10).1).trans hg10;obtain ⟨x2,hcp,hg12,hb12⟩:=cell_copied hg11 (FAT.out _ (EE10.out.trans Ex1)) f0 f12;have E12:=hZ (But.toExt EE10.out (But.trans (But.ofExt (l:=[cb]) Ex1) hb12) (by have:=E8.out.le;simp;omega));have B12:But [cb] w8 x2:=(But.ofExt E10).trans ((But.ofExt (l:=[cb]) Ex1).trans hb12);have M12:=hZ (M8.out.but B12 (by have:=M8.out.lt;simp;omega));have y12:=(B12.cell (cell_lt y8) (by have:=cell_lt y8;simp;omega) 0).trans y8;have hk13:=HW.out.keyL_len hx;have hkbd:=keyL_bd_ WFW.out x;have hkeq:keyL S x=t :: (fs ++ List.replicate (12-fs.length) 0):=by unfold keyL;rw [ht,hfs]
      rw [<- hkeq] at hg12
      by_cases hmem:keyL S x ∈ D.reverse.map (keyL S)
      . have hlk:=M12.out.look hk13 hkbd (decide_eq_true hmem);obtain ⟨a0,a1,a2,a3,a4,a5,a6,a7,a8,a9,a10,a11,a12,hkl⟩:=list13 hk13;rw [hkl] at hg12 hlk;simp only [ints,List.map_cons,List.map_nil] at hg12 hlk;have QC:∀ (j:Nat) (v:Value),(#[.int .i64 a0,.int .i64 a1,.int .i64 a2,.int .i64 a3,.int .i64 a4,.int .i64 a5,.int .i64 a6,.int .i64 a7,.int .i64 a8,.int .i64 a9,.int .i64 a10,.int .i64 a11,.int .i64 a12]:Array Value)[j]? = some v->x2.cell? ⟨cb,j,none⟩=some v:=fun j v hv=>by simp only [World.cell?,hg12];exact hv
        have qc0:=QC 0 _ rfl;have qc1:=QC 1 _ rfl;have qc2:=QC 2 _ rfl;have qc3:=QC 3 _ rfl;have qc4:=QC 4 _ rfl;have qc5:=QC 5 _ rfl;have qc6:=QC 6 _ rfl;have qc7:=QC 7 _ rfl;have qc8:=QC 8 _ rfl;have qc9:=QC 9 _ rfl;have qc10:=QC 10 _ rfl;have qc11:=QC 11 _ rfl;have qc12:=QC 12 _ rfl;clear QC hkl hk13 hkbd hkeq hg12 hg11 hg10 B12 hb12 y12 zy zh h10 y10 E10 EZ N10
        go_wp2_with fail
        go_returns;exact ⟨false,rfl,E12.out,fun e=>by cases e⟩
      have hlk:=M12.out.look hk13 hkbd (decide_eq_false hmem);have hDl:(D.reverse.map (keyL S)).length < maxLen:=by
       rw [List.length_map,List.length_reverse];have h1:=Hp.nodup_len (l:=D) (m:=S.taken) (List.nodup_append.1 S2H.out.nd).1 (fun y hy=>S2H.out.sub y (by simp [hy]));have:=HW.out.few;unfold maxLen;omega
      obtain ⟨x3,hup,hM13,hT13⟩:=M12.out.put hk13 hkbd hDl;have B13:But [w.heap.size+1] x2 x3:=(But.refl _ _).turned hT13 (.inl (by simp));have E13:=hZ (But.toExt E12.out B13 (by simp));have M13:Hid (KeyS x3 (w.heap.size+1) ((D ++ [x]).reverse.map (keyL S))):=hZ (by rw [List.reverse_append];exact hM13);have z8:=E8.out.le;have own1:=z1 _ d.gm_own;have R13:=hZ (ranges_of (ranges_of R8.out (B12.block _ (by omega) (by simp;omega)) (B12.block _ R8.out.lt (by have:=R8.out.lt;simp;omega))) (B13.block _ (by have:=B12.size;omega) (by simp;omega)) (B13.block _ (by have:=R8.out.lt;have:=B12.size;omega) (by simp;omega)));have Y13:=hZ ((B13.cell (cell_lt y12) (by simp) 0).trans y12);have hrz13:rr < x3.heap.size:=by have:=B12.size;have:=B13.size;omega
      obtain ⟨a0,a1,a2,a3,a4,a5,a6,a7,a8,a9,a10,a11,a12,hkl⟩:=list13 hk13;rw [hkl] at hg12 hlk hup;simp only [ints,List.map_cons,List.map_nil] at hg12 hlk hup;have QC:∀ (j:Nat) (v:Value),(#[.int .i64 a0,.int .i64 a1,.int .i64 a2,.int .i64 a3,.int .i64 a4,.int .i64 a5,.int .i64 a6,.int .i64 a7,.int .i64 a8,.int .i64 a9,.int .i64 a10,.int .i64 a11,.int .i64 a12]:Array Value)[j]? = some v->x2.cell? ⟨cb,j,none⟩=some v:=fun j v hv=>by simp only [World.cell?,hg12];exact hv
      have qc0:=QC 0 _ rfl;have qc1:=QC 1 _ rfl;have qc2:=QC 2 _ rfl;have qc3:=QC 3 _ rfl;have qc4:=QC 4 _ rfl;have qc5:=QC 5 _ rfl;have qc6:=QC 6 _ rfl;have qc7:=QC 7 _ rfl;have qc8:=QC 8 _ rfl;have qc9:=QC 9 _ rfl;have qc10:=QC 10 _ rfl;have qc11:=QC 11 _ rfl;have qc12:=QC 12 _ rfl;clear QC hkl hk13 hkbd hkeq hg12 hg11 hg10 hM13 hT13 B13 B12 hDl own1 z8 hb12 y12 zy zh h10 y10 E10 EZ N10
      go_wp2_with fail
      go_roundg cnt'
      case measure=>omega
      case rel=>exact ⟨_,cnt',D ++ [x],Nat.le_refl _,R13,M13,E13,Y13,hrz13,(show Aside _ from ⟨S2H.out,CDX.out hmem⟩)⟩
theorem Hp.Tw.cnt_le_ (h:Hp.Tw S L) (a:Nat):Hp.cnt (Hp.ow S.words) S.sizes a S.taken<=100000:=by
 have h1:=Hp.cnt_le (f:=Hp.ow S.words) (z:=S.sizes) a S.taken
 have h3:Hp.widths (Hp.ow S.words) S.sizes S.taken+17<=S.words.length:=by
  rw [h.taken];exact Hp.widths_le h.parts.lay fun t ht hf=>((h.parts.ok t ht).cell hf).2
 have h4:=h.hi
 omega
set_option maxRecDepth 100000 in
set_option maxHeartbeats 8000000 in
theorem areUsed_gen {v:Value} (h:LdAt w0 w lb d S v p k G) (hw:Hp.Tw S L) (hcs:Hp.Cells (Hp.ow S.words) S.sizes S.order S.taken) :
    Calls Tryz.prog 64 #[.pointer (some ⟨lb,0,none⟩)] w fun e w'=>∃ b,e = .returned (.bool b)/\Ext w w'/\(b=true->Hp.Uses (Hp.ow S.words) S.sizes S.taken S.taken /\ ∀ a ∈ S.taken,0<=Hp.ow S.words (a+2)):=by
  have H:=hZ h;have HCS:=hZ hcs;have HW:=hZ hw;have hhi:=hw.hi;have z1:=h.toHAt.own_lt;have zl:=h.lt1;clear h hw hcs;have hmm:=@run_makeMap Tryz.prog;go_enter Tryz.func64,Tryz.ntmps64;go_upto_region 2 with (fail)
  have E0:Ext w (((w.alloc (.cells #[.pointer (some ⟨lb,0,none⟩)] 107)).alloc (.map #[] 0)).alloc (.cells #[.map (some (w.heap.size+1))] 119)):=exx;have x1:(((w.alloc (.cells #[.pointer (some ⟨lb,0,none⟩)] 107)).alloc (.map #[] 0)).alloc (.cells #[.map (some (w.heap.size+1))] 119)).cell? ⟨w.heap.size,0,none⟩=some (.pointer (some ⟨lb,0,none⟩)):=by go_simp
  have x3:(((w.alloc (.cells #[.pointer (some ⟨lb,0,none⟩)] 107)).alloc (.map #[] 0)).alloc (.cells #[.map (some (w.heap.size+1))] 119)).cell? ⟨w.heap.size+1+1,0,none⟩=some (.map (some (w.heap.size+1))):=by go_simp
  have sz:(((w.alloc (.cells #[.pointer (some ⟨lb,0,none⟩)] 107)).alloc (.map #[] 0)).alloc (.cells #[.map (some (w.heap.size+1))] 119)).heap.size=w.heap.size+3:=by simp
  have MI0:MapIAt Tryz.prog (((w.alloc (.cells #[.pointer (some ⟨lb,0,none⟩)] 107)).alloc (.map #[] 0)).alloc (.cells #[.map (some (w.heap.size+1))] 119)) (w.heap.size+1) []:=by
   have:=(MapIAt.made (P:=Tryz.prog) (w.alloc (.cells #[.pointer (some ⟨lb,0,none⟩)] 107))).ext (Ext.alloc (Ext.refl _) (.cells #[.map (some (w.heap.size+1))] 119))
   simpa using this
  generalize ((w.alloc (.cells #[.pointer (some ⟨lb,0,none⟩)] 107)).alloc (.map #[] 0)).alloc (.cells #[.map (some (w.heap.size+1))] 119)=wc at *;have N0:=hZ (H.out.ext E0);have h0:=N0.out.h0;have c3:=N0.out.c3;have ownd:=N0.out.map.owns
  go_wp2_with (at_range;refine wpList_range_own _ rfl _ 102 rfl 3 4 (int_keyed Tryz.underlying3) Tryz.underlying102 _ d.gm _ _ rfl ownd ?_;intro w1 hrg0 hg0 hs0;go_frame)
  have E1:Ext wc w1:=⟨hg0.os,hg0.tape,hg0.output,hg0.size,fun k hk=>hg0.block k hk (by simp)⟩
  have E01:=hZ (E0.trans E1);have MI1:=hZ (MI0.ext E1);have RG:=hZ hrg0;have y1:=(E1.cell (b:=w.heap.size) (by omega) 0).trans x1;have y3:=(E1.cell (b:=w.heap.size+1+1) (by omega) 0).trans x3;have Y:=hZ (And.intro y1 y3);have sz1:wc.heap.size < w1.heap.size:=by omega
  rw [sz] at sz1 RG ⊢;clear hrg0 ownd c3 h0 hg0 hs0 E1 E0 MI0 x1 x3 y1 y3 N0 sz;generalize hrr:w.heap.size+3=rr at RG sz1 ⊢
  go_loopg [4] (Maps.size (mapOf S.taken)) (fun g _ wr=>∃ (left:Lit->Bool) (cnt:Nat) (D:List Nat) (M:List (Nat × Int)),cnt<=g/\Hid (wr.ranges Tryz.prog 3 (plainElem (H:=Unit) Tryz.prog 4) d.gm rr S.taken.length (mapOf S.taken) left cnt)/\Hid (MapIAt Tryz.prog wr (w.heap.size+1) M)/\Hid (Ext w wr)/\Hid (wr.cell? ⟨w.heap.size,0,none⟩=some (.pointer (some ⟨lb,0,none⟩))/\wr.cell? ⟨w.heap.size+1+1,0,none⟩=some (.map (some (w.heap.size+1))))/\Hid (CountsAre S D [] M)/\Hid (∀ q ∈ M,q.1 < S.words.length)/\Aside (SeenInv S.taken D left))
  case atStart=>exact ⟨_,_,[],[],Nat.le_refl _,RG,MI1,E01,Y,hZ (fun y=>by simp [getI,Hp.cnt]),hZ (by simp),SeenInv.nil _⟩
  case round=>
   obtain ⟨left,cnt,D,M,hg,RR,MM,EE,YY,CA,KB,SI⟩:=hrel;clear RG MI1 E01 Y
   go_wp2_with (at_next;refine wpList_next_left _ rfl _ rfl Tryz.underlying3 Tryz.underlying4 d.gm rr _ S.taken left cnt rfl RR.out ?_ ?_)
   . intro hl;have hperm:=SI.out.perm HW.out.nodup hl;have hca:∀ y:Nat,(getI y M).getD 0=((Hp.cnt (Hp.ow S.words) S.sizes y S.taken:Nat):Int):=fun y=>by
      rw [CA.out y,Hp.cnt_perm hperm];simp
     have N:=hZ (H.out.ext EE.out);have h0:=N.out.h0;have c3:=N.out.c3;obtain ⟨y1,y3⟩:=YY.out;have KEYS:=hZ (fun W=>keysB_call d.gm W);have hlt6:∀ x ∈ S.taken,x < 1000000:=fun x hx=>by have:=HW.out.part hx;omega
     have COLL:=hZ (collectB_call N.out.map hlt6);have HCA:=hZ hca;clear hca hperm hlt6
     go_wp2_with (first
      | (go_at_call 130;refine (KEYS.out _).mono ?_;rintro e w5 ⟨rfl,rfl⟩)
      | (go_at_call 129;refine COLL.out.mono ?_;rintro e w6 ⟨p6,c6,ss,rfl,hP6,hS6,hE6⟩))
     have EX6:Ext wr w6:=Ext.trans (exx) hE6;have N6:=hZ (N.out.ext EX6);have SAYS:SaysAll w6 131 #[] #[.pointer (some ⟨w.heap.size,0,none⟩),.pointer (some ⟨w.heap.size+1+1,0,none⟩)] ss (Hp.usedB S.words M):=fun j x hx _ W hW=>by
      obtain ⟨a,ha,rfl⟩:=List.mem_map.1 (hP6.mem_iff.1 (List.mem_of_getElem? hx));have pa:=HW.out.part ha;have zz1:=cell_lt y1;have zz3:=cell_lt y3;have EXW:=EX6.trans hW;have hc:=areUsed1_any (a:=a) (N6.out.ext hW) ((EXW.cell zz1 0).trans y1) ((EXW.cell zz3 0).trans y3) (MM.out.ext EXW) (by omega)
      simpa using hc
     have EV:=hZ (every_any (enters_of Tryz.func131 (by kernel_rfl) rfl) hS6 SAYS rfl);have EEX:=hZ (EE.out.trans EX6);have HP6:=hZ hP6;clear SAYS hS6 hP6 EX6;refine EV.out.mono ?_;rintro e w7 ⟨rfl,hE7⟩
     go_wp2_with fail
     go_returns;refine ⟨_,rfl,EEX.out.trans hE7,fun e=>?_⟩;have main:∀ a ∈ S.taken,Hp.ow S.words (a+1)=Hp.cnt (Hp.ow S.words) S.sizes a S.taken/\0<=Hp.ow S.words (a+2):=fun a ha=>by
      have pa:=HW.out.part ha;have hm:=List.all_eq_true.1 e (a:Int) (HP6.out.mem_iff.2 (List.mem_map.2 ⟨a,ha,rfl⟩));unfold Hp.usedB at hm;rw [Int.toNat_natCast,Hp.rd_ow (by omega),Hp.rd_ow (by omega)] at hm;simp only [Bool.and_eq_true,beq_iff_eq,decide_eq_true_eq] at hm;rw [HCA.out a] at hm;exact hm
     exact ⟨fun a ha=>(main a ha).1,fun a ha=>(main a ha).2⟩
   intro x c w' cnt' hx hlx hrg' hlt hbut hen;have hbx:But [rr] wr w':=hbut;have E2:=hZ (But.toExt EE.out hbut (by simp;omega));have N:=hZ (H.out.ext E2.out);have h0:=N.out.h0;obtain ⟨y1,y3⟩:=YY.out;have y1':=(hbut.cell (cell_lt y1) (by simp;omega) 0).trans y1;have y3':=(hbut.cell (cell_lt y3) (by simp;omega) 0).trans y3;have M2:=hZ (MM.out.but hbut (by simp;omega));have Y2:=hZ (And.intro y1' y3');have RN:=hZ hrg';have px:=HW.out.part hx;have S2:=SI.out.step hx hlx;have S2H:=hZ S2;obtain ⟨ks,hks⟩:∃ ks,Hp.kz (Hp.ow S.words) S.sizes x=ks:=⟨_,rfl⟩
   obtain ⟨t,ht⟩:∃ t,Hp.ow S.words x=t:=⟨_,rfl⟩
   have ktag:=HW.out.tag_ hx;rw [ht] at ktag;have kkids:=HW.out.kids_ hx;rw [hks] at kkids;have KIDS:=hZ (fun W (hW:Ext w W)=>kids_any (H.out.ext hW).toHAt ktag kkids);have KAT:=hZ (fun W (hW:Ext w W)=>kids_at (H.out.ext hW).toHAt ktag kkids);have kl:=Hp.kz_len (f:=Hp.ow S.words) (z:=S.sizes) (a:=x);rw [hks] at kl;have kl12:ks.length<=12:=by omega
   have KN:∀ j y,Hp.rd ks j=some y -> ∃ b:Nat,y=b/\b ∈ S.taken:=fun j y hy=>by
    rw [<- hks] at hy;obtain ⟨b,hb,e,_⟩:=HCS.out.kids x hx y (List.mem_of_getElem? hy);exact ⟨b,e,hb⟩
   have KNH:=hZ KN;have HKS:=hZ hks;obtain ⟨pk,hpk⟩:∃ pk,kp d x t=pk:=⟨_,rfl⟩
   rw [hpk] at KIDS KAT;clear hrg' hbut hx hlx S2 px ktag kkids hks ht kl KN y1 y3 YY EE RR MM SI hpk hmm;have CB:Hid (∀ y,Hp.cnt (Hp.ow S.words) S.sizes y D<=100000):=hZ (fun y=>by
    have h1:=cnt_sub (f:=Hp.ow S.words) (z:=S.sizes) (a:=y) (D:=D) (T:=S.taken) (by
     have:=S2H.out.nd;exact (List.nodup_append.1 this).1) (fun q hq=>S2H.out.sub q (by simp [hq]))
    have h2:=HW.out.cnt_le_ y;omega)
   go_wp2_with (go_at_call 80;refine (KIDS.out _ E2.out).mono ?_;rintro e w5 ⟨rfl,hE5⟩)
   have RN5:=hZ (ranges_of RN.out (hE5.block _ (by have:=RN.out.lt;have:=N.out.map.lt;omega)) (hE5.block _ RN.out.lt));have M5:=hZ (M2.out.ext hE5);have E5:=hZ (E2.out.trans hE5);have Y5:=hZ (And.intro ((hE5.cell (cell_lt Y2.out.1) 0).trans Y2.out.1) ((hE5.cell (cell_lt Y2.out.2) 0).trans Y2.out.2))
   go_loopg [27] ks.length (fun g i wx=>∃ (j:Nat) (M':List (Nat × Int)),j<=ks.length/\ks.length-j<=g/\i = .int .i64 j/\Hid (wx.ranges Tryz.prog 3 (plainElem (H:=Unit) Tryz.prog 4) d.gm rr S.taken.length (mapOf S.taken) (fun z=>left z && !z.sameKey (.int .i64 x)) cnt')/\Hid (MapIAt Tryz.prog wx (w.heap.size+1) M')/\Hid (Ext w wx)/\Hid (wx.cell? ⟨w.heap.size,0,none⟩=some (.pointer (some ⟨lb,0,none⟩))/\wx.cell? ⟨w.heap.size+1+1,0,none⟩=some (.map (some (w.heap.size+1))))/\Hid (CountsAre S D (ks.take j) M')/\Hid (∀ q ∈ M',q.1 < S.words.length))
   case atStart=>exact ⟨0,M,Nat.zero_le _,by omega,rfl,RN5,M5,E5,Y5,hZ (by simpa using CA.out),KB⟩
   case round=>
    obtain ⟨j,M',hj,hg2,rfl,R6,M6,E6,Y6,C6,K6⟩:=hrel;clear RN5 M5 E5 Y5 RN M2 E2 Y2 N h0 y1' y3' hE5;obtain ⟨y1,y3⟩:=Y6.out
    by_cases hlt2:j < ks.length
    . obtain ⟨y,hy⟩:=rd_get (l:=ks) (j:=j) hlt2;obtain ⟨b,rfl,hb⟩:=KNH.out j y hy;obtain ⟨kb,ko,hkp,hkb,hkc⟩:=(KAT.out _ E6.out).cells (by omega);have gk:=hkc j _ hy;have pb:=HW.out.part hb;have tk:decide ((j:Int) < (ks.length:Int))=true:=dT;have tk2:decide (j < ks.length)=true:=dT;have hlk:=M6.out.look (t:=119) Tryz.underlying3 Tryz.underlying119 (Tryz.zeroValue3 wr) (k:=b) (by omega);have hcv:=C6.out b;have hcb:=CB.out b;have hcl:=List.count_le_length (a:=(b:Int)) (l:=ks.take j);have hcl2:(ks.take j).length<=ks.length:=List.length_take_le' _ _;obtain ⟨cv,hcv2⟩:∃ cv,(getI b M').getD 0=cv:=⟨_,rfl⟩
      rw [hcv2] at hlk hcv;have hcv3:0<=cv/\cv<=200000:=by omega
      obtain ⟨cv1,cv2⟩:=hcv3;have hml:=keys_len M6.out.up K6.out;obtain ⟨w7,hup,hm7,ht7⟩:=M6.out.put (t:=119) Tryz.underlying3 Tryz.underlying119 (by unfold maxLen;omega) (a:=b) (x:=cv+1) (by omega) (by omega) (by omega);have B7:But [w.heap.size+1] wr w7:=(But.refl _ _).turned ht7 (.inl (by simp));have E7:=hZ (But.toExt E6.out B7 (by simp));have own1:=H.out.toHAt.own_lt _ d.gm_own;have R7:=hZ (ranges_of R6.out (B7.block _ (by have:=E6.out.le;omega) (by simp;omega)) (B7.block _ R6.out.lt (by simp;omega)));have Y7:=hZ (And.intro ((B7.cell (cell_lt y1) (by simp) 0).trans y1) ((B7.cell (cell_lt y3) (by simp) 0).trans y3));have M7:=hZ hm7
      have C7:Hid (CountsAre S D (ks.take (j+1)) (putI b (cv+1) M')):=hZ (by
       rw [take_snocI hy,<- hcv2];exact C6.out.put M6.out.up)
      have K7:Hid (∀ q ∈ putI b (cv+1) M',q.1 < S.words.length):=hZ (fun q hq=>by
       rcases keys_put hq with e | ⟨q',hq',e⟩
       . rw [e];omega
       . rw [<- e];exact K6.out q' hq')
      clear hcv hcb hcl hcl2 hcv2 hml hm7 ht7 B7 own1 hkc hy hb pb;subst hkp
      go_wp2_with fail
      go_roundg (ks.length-(j+1))
      case measure=>omega
      case rel=>exact ⟨j+1,_,by omega,Nat.le_refl _,by go_num,R7,M7,E7,Y7,C7,K7⟩
    have:j=ks.length:=by omega
    subst this;have tk:decide ((ks.length:Int) < (ks.length:Int))=false:=dF;have tk2:decide (ks.length < ks.length)=false:=dF;have C8:Hid (CountsAre S (D ++ [x]) [] M'):=hZ (fun y=>by
     rw [C6.out y,List.take_length,Hp.cnt_app];show _=((Hp.cnt _ _ y D+(List.count (y:Int) (Hp.kz (Hp.ow S.words) S.sizes x)+0)+0:Nat):Int);rw [HKS.out];rfl)
    go_wp2_with fail
    go_roundg cnt'
    case measure=>omega
    case rel=>exact ⟨_,cnt',D ++ [x],M',Nat.le_refl _,R6,M6,E6,Y6,C8,K6,(show Aside _ from S2H.out)⟩
set_option maxRecDepth 100000 in
set_option maxHeartbeats 16000000 in
theorem Load_no {d go wc:Nat} (hs:SliceAt w p c S.sizes) (ho:SliceAt w q d S.order) (hw':SliceAt w (some ⟨gb,go,none⟩) wc S.words) (hp:0 < S.sizes.length \/ p=none) (hq:0 < S.order.length \/ q=none) (fro:Hp.FrOk S.sizes S.order) (hlo:20<=S.words.length) (hhi:S.words.length<=100000) (hno:∀ (T:List Nat) (L:List Hp.Tl) (ch:Nat->List Nat),¬ Hp.Wf { S with taken:=T } 9223372036854775807 L ch) (he:Hp.newErr S.sizes S.order S.words.length=0) :
    Calls Tryz.prog 16 #[.slice p S.sizes.length c,.slice q S.order.length d,.slice (some ⟨gb,go,none⟩) S.words.length wc] w fun e w'=>e = .returned (.tuple #[.pointer none,.int .i64 4])/\Ext w w':=by
  have fr:=fro.toFr;have hol:S.order.length<=1000000:=by have:=fro.len;have:=fr.few;omega
  have few:=fr.few;obtain ⟨R,hwk,htw⟩:=Hp.walk_tw fro hlo hhi;have HTW:=hZ htw;have HNO:=hZ hno;have HC:=hZ (he ▸ hcheck_any (words:=(S.words.length:Int)) hs ho hq hol);have HS:=hZ hs;have HO:=hZ ho;have HW:=hZ hw';have HF:=hZ fr;have WK:=hZ hwk;clear hs ho he hw' fr hno fro hwk htw;have mixed:Tryz.prog.follows .mixedOrders=true:=by kernel_rfl
  have hmm:=@run_makeMap Tryz.prog;go_enter Tryz.func16,Tryz.ntmps16;go_upto_region 4 with (go_at_call 59;refine (HC.out).mono ?_;rintro e w1 ⟨rfl,hb1⟩;obtain ⟨hc1,hf1,hs1⟩:=hb1.cells)
  clear hc1 hf1 hs1
  go_upto_region 5 with (first
   | (go_at_call_of 60 (Value.slice p S.sizes.length c);refine (sClone_any (HS.out.ext (exx)) hp (by omega)).mono ?_;rintro e w2 ⟨p2,c2,rfl,hR2,hb2,hg2⟩)
   | (go_at_call_of 60 (Value.slice q S.order.length d);refine (sClone_any (HO.out.ext (exx)) hq hol).mono ?_;rintro e w3 ⟨p3,c3,rfl,hR3,hb3,hg3⟩)
   | (go_at_call 60;refine (sClone_any (HW.out.ext (exx)) (.inl (by omega)) (by omega)).mono ?_;rintro e w4 ⟨p4,c4,rfl,hR4,hb4,hg4⟩;obtain ⟨g4,rfl⟩:=hg4 (by omega)))
  have q1:=hb1.le;have q2:=hb2.le;have q3:=hb3.le;have q4:=hb4.le
  (try simp at q2)
  (try simp at q3)
  (try simp at q4)
  have r4:=hR4.far rfl
  (try simp at r4)
  have W4:=hR4.words;have l4:=hR4.lt rfl;refine load_cut (S:=S) (w:=w) (by rfl) (by rfl) (by rfl) ?hat ?ext ?h0 ?h1 ?fz ?low ?rest
  case ext=>exact exx
  case h0=>go_simp
  case h1=>go_simp
  case fz=>intro k;go_simp
  case low=>
   refine ⟨⟨?_, ?_, ?_⟩,fun b o e=>?_,fun b o e=>?_, ?_, ?_, ?_, ?_⟩
   . omega
   . omega
   . omega
   . have h1:=hR2.far e;have h2:=hR2.lt e
     (try simp at h1)
     omega
   . have h1:=hR3.far e;have h2:=hR3.lt e
     (try simp at h1)
     omega
   . omega
   . omega
   . omega
   omega
  case hat=>
   exact
    { c0:=by go_simp
      c1:=by go_simp
      c2:=by go_simp
      c3:=by go_simp
      f2:=by go_simp
      sizes:=(hR2.at_).ext (exx)
      order:=(hR3.at_).ext (exx)
      words:=W4.1.ext (exx)
      le:=W4.2.1
      cap:=W4.2.2
      map:=by
       refine MapAt.ext (map_at w4 _ ?_) ?_
       . (simp;done)
       exact exx
      below:=by simp
      apart1:=by simp only [ne_eq];omega
      apart2:=by simp only [ne_eq];omega
      apart3:=by simp only [ne_eq];omega
      far1:=fun b o e hm=>by
       have h1:=hR2.far e;have h2:=hR2.lt e
       (try simp at h1)
       simp only [Hd.own,List.mem_cons,List.not_mem_nil,or_false] at hm;omega
      far2:=fun b o e hm=>by
       have h1:=hR3.far e;have h2:=hR3.lt e
       (try simp at h1)
       simp only [Hd.own,List.mem_cons,List.not_mem_nil,or_false] at hm;omega
      pos:=HF.out.pos
      small:=by simp only;omega
      few:=few
      old1:=fun b o e=>by
       have h2:=hR2.lt e;simp;omega
      old2:=fun b o e=>by
       have h2:=hR3.lt e;simp;omega }
  case rest=>
   clear hmm hR2 hR3 hR4 hb1 hb2 hb3 hb4 hg2 hg3 hg4 q1 q2 q3 q4 r4 W4 l4 HC HS HO HW hp hq;intro w9 H9 lo;have N0:=hZ H9;have LO:=hZ lo;clear H9 lo
   go_wp2_with (first
    | go_loud (go_at_call 61;refine (lwalk_any N0.out WK.out).mono ?_;rintro e w10 ⟨hE10,⟨hR,rfl⟩ | ⟨T,G,p,k,hR,rfl,hL⟩⟩;(go_wp2_with fail;go_ret2;exact ⟨rfl,hE10⟩);obtain ⟨L,htw,hG⟩:=HTW.out T G hR;subst hG;have TW:=hZ htw;have N:Hid (LdAt w w10 _ _ { S with taken:=T } _ _ _ _):=hZ hL;have E10:=hZ hE10;obtain ⟨bb,hbb⟩:∃ bb,Hp.linkedB S.words (Hp.gapsOf L) 16=bb:=⟨_,rfl⟩;have HBB:=hZ hbb;have hgl:=Hp.gapsOf_len htw.parts.lay;clear hL hE10 htw hbb N0 hR)
    | go_loud (go_at_call 62;refine (isLinked_any N.out TW.out.gaps (Nat.le_trans hgl (by show S.words.length<=1000000;omega)) (show 17<=S.words.length by omega) HBB.out).mono ?_;rintro e w11 ⟨rfl,E11⟩;have E1:=hZ (E10.out.trans E11);have N1:=hZ (N.out.ext E11);clear N E11;cases bb;(go_wp2_with fail;go_ret2;exact ⟨rfl,E1.out⟩))
    | go_loud (go_at_call 63;refine (areCells_gen N1.out TW.out).mono ?_;rintro e w12 ⟨b,rfl,E12,hb⟩;have E2:=hZ (E1.out.trans E12);have N2:=hZ (N1.out.ext E12);clear N1 E12;cases b;(go_wp2_with fail;go_ret2;exact ⟨rfl,E2.out⟩);have HCL:=hZ (hb (by first | rfl | trivial));clear hb)
    | go_loud (go_at_call 64;refine (areUsed_gen N2.out TW.out HCL.out).mono ?_;rintro e w13 ⟨b,rfl,E13,hb⟩;have E3:=hZ (E2.out.trans E13);have N3:=hZ (N2.out.ext E13);clear N2 E13;cases b;(go_wp2_with fail;go_ret2;exact ⟨rfl,E3.out⟩);have HUS:=hZ (hb (by first | rfl | trivial));clear hb;obtain ⟨bc,hc1,hc2⟩:=TW.out.chained HCL.out;have HC1:=hZ hc1;have HC2:=hZ hc2;clear hc1 hc2)
    | go_loud (go_at_call 65;refine (areChained_any N3.out (TW.out.chainsOk HCL.out) (show 17<=S.words.length by omega) HC1.out).mono ?_;rintro e w14 ⟨rfl,E14⟩;have E4:=hZ (E3.out.trans E14);have WFW:=hZ (fun x hx=>(N3.out.words.wf x hx).2);clear N3 E14;cases bc;rotate_left;(exfalso;obtain ⟨ch,k1,k2⟩:=HC2.out (by first | rfl | trivial);obtain ⟨l1,l2,l3⟩:=TW.out.linked HBB.out;exact HNO.out _ L ch (TW.out.wf l1 l2 l3 HCL.out HUS.out.1 HUS.out.2 WFW.out k1 k2));(go_wp2_with fail;go_ret2;exact ⟨rfl,E4.out⟩)))
namespace Hp
structure FreeTo (f:Nat->Int) (F:List Tl) (j:Nat):Prop where
 fit:∀ (i:Nat) (t:Tl),i < j->F[i]? = some t->f (bef 16 F i)=(t.a:Int) /\ ∀ k,t.a+3<=k->k < t.a+t.k->f k=0
 far:∀ (i:Nat) (t u:Tl),i+1 < j->F[i]? = some t->F[i+1]? = some u->t.a+t.k ≠ u.a
theorem FreeTo.zero (f:Nat->Int) (F:List Tl):FreeTo f F 0:=⟨fun i t h=>absurd h (Nat.not_lt_zero _),fun i t u h=>absurd h (Nat.not_lt_zero _)⟩
theorem FreeTo.step {f:Nat->Int} {F:List Tl} (h:FreeTo f F j) {t:Tl} (ht:F[j]? = some t) (h1:f (bef 16 F j)=(t.a:Int)) (h2:∀ k,t.a+3<=k->k < t.a+t.k->f k=0) (h3:∀ (i:Nat) (v:Tl),j=i+1->F[i]? = some v->v.a+v.k ≠ t.a):FreeTo f F (j+1) where
 fit:=fun i u hi hu=>by
  by_cases e:i=j
  . subst e;rw [ht] at hu
    cases hu
    exact ⟨h1,h2⟩
  exact h.fit i u (by omega) hu
 far:=fun i v u hi hv hu=>by
  by_cases e:i+1=j
  . subst e;rw [ht] at hu
    cases hu
    exact h3 i v rfl hv
  exact h.far i v u (by omega) hv hu
theorem linkedTo_of {f:Nat->Int}:∀ {F:List Tl} {l:Nat},(∀ (i:Nat) (t:Tl),F[i]? = some t->f (bef l F i)=(t.a:Int))->f (bef l F F.length)=0->LinkedTo f l F
 | [],_,_,h=>h
 | t :: r,l,h1,h2=>⟨h1 0 t rfl,linkedTo_of (F:=r) (l:=t.a+2) (fun i u hu=>h1 (i+1) u (by simpa using hu)) h2⟩
theorem apart_of:∀ {F:List Tl},(∀ (i:Nat) (t u:Tl),F[i]? = some t->F[i+1]? = some u->t.a+t.k ≠ u.a)->Apart F
 | [],_=>trivial
 | [_],_=>trivial
 | t :: u :: r,h=>⟨h 0 t u rfl rfl,apart_of (F:=u :: r) fun i v w hv hw=>h (i+1) v w (by simpa using hv) (by simpa using hw)⟩
theorem FreeTo.all {f:Nat->Int} (h:FreeTo f (freeOf L) (freeOf L).length) (hl:f (bef 16 (freeOf L) (freeOf L).length)=0):LinkedTo f 16 (freeOf L)/\Apart (freeOf L)/\Zeros f L:=by
 refine ⟨linkedTo_of (fun i t ht=>(h.fit i t (List.getElem?_eq_some_iff.1 ht).1 ht).1) hl,apart_of fun i t u ht hu=>h.far i t u (List.getElem?_eq_some_iff.1 hu).1 ht hu,fun t ht hf j h1 h2=>?_⟩
 obtain ⟨i,hi⟩:=List.mem_iff_getElem?.1 (mem_freeOf.2 ⟨ht,hf⟩)
 exact (h.fit i t (List.getElem?_eq_some_iff.1 hi).1 hi).2 j h1 h2
structure CellFit (S:Hs) (a:Nat):Prop where
 hold:0<=ow S.words (a+2)
 ends:isEnd (ow S.words a)=true -> -9999<=ow S.words (a+4)/\ow S.words (a+4)<=9999/\(20 < ow S.words a->ow S.words (a+4)=0)
 kids:∀ x ∈ kz (ow S.words) S.sizes a,∃ b ∈ S.taken,x=(b:Int)/\rank S.order (ow S.words a) < rank S.order (ow S.words b)
 flat:isEnd (ow S.words a)=false->Hs.alike (fz (ow S.words) S.sizes a)=false
 one:∀ b ∈ S.taken,b < a -> ¬ (ow S.words b=ow S.words a/\fz (ow S.words) S.sizes b=fz (ow S.words) S.sizes a)
theorem Tw.cells_of (hw:Tw S L) (h:∀ (i a:Nat),i < S.taken.length->S.taken[i]? = some a->CellFit S a):Cells (ow S.words) S.sizes S.order S.taken /\ ∀ a ∈ S.taken,0<=ow S.words (a+2):=by
 have g:∀ a ∈ S.taken,CellFit S a:=fun a ha=>by
  obtain ⟨i,hi⟩:=List.mem_iff_getElem?.1 ha;exact h i a (List.getElem?_eq_some_iff.1 hi).1 hi
 refine ⟨⟨fun a ha=>hw.tags ha,fun a ha=>(g a ha).ends,fun a ha=>(g a ha).kids,fun a ha=>(g a ha).flat,fun a ha b hb e1 e2=>?_⟩,fun a ha=>(g a ha).hold⟩
 rcases Nat.lt_trichotomy a b with e | e | e
 . exact absurd ⟨e1,e2⟩ ((g b hb).one a ha e)
 . exact e
 exact absurd ⟨e1.symm,e2.symm⟩ ((g a ha).one b hb e)
theorem Tw.cnt_le (h:Tw S L) (a k:Nat):cnt (ow S.words) S.sizes a (S.taken.take k)<=100000:=by
 have h1:=Hp.cnt_le (f:=ow S.words) (z:=S.sizes) a (S.taken.take k)
 have h2:=widths_app (ow S.words) S.sizes (S.taken.take k) (S.taken.drop k)
 rw [List.take_append_drop] at h2
 have h3:=widths_le h.parts.lay fun t ht hf=>((h.parts.ok t ht).cell hf).2
 rw [<- h.taken] at h3
 have h4:=h.hi
 omega
def PathP (f:Nat->Int):Nat->List Nat->Int->Prop
 | l,[],y=>f l=y
 | l,a :: r,y=>f l=(a:Int)/\a ≠ 0/\PathP f (a+3) r y
theorem PathP.path {f:Nat->Int}:∀ {l:Nat} {P:List Nat},PathP f l P 0->Path f l P
 | _,[],h=>h
 | _,_ :: _,h=>⟨h.1,h.2.1,PathP.path h.2.2⟩
theorem PathP.snoc {f:Nat->Int} (ha:a ≠ 0):∀ {l:Nat} {P:List Nat},PathP f l P (a:Int)->PathP f l (P ++ [a]) (f (a+3))
 | _,[],h=>⟨h,ha,rfl⟩
 | _,_ :: _,h=>⟨h.1,h.2.1,PathP.snoc ha h.2.2⟩
end Hp
end Go.Proofs.YtdokmmhjmclmnaaGreat
