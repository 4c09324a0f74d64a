/-
  Part 11 of a proof: PL7 PL8 PL9 PL10 PL11 PL12 PL14 PL15 HFn26.
-/
import Derived.Test.YtdokmmhjmclmnaaGreatMK01
import Derived.Test.YtdokmmhjmclmnaaGreatMK05
import Derived.Test.YtdokmmhjmclmnaaGreatMK09
set_option linter.unusedSimpArgs false
set_option linter.unusedVariables false
set_option linter.unusedSectionVars false
set_option linter.unnecessarySimpa false
namespace Go.Proofs.YtdokmmhjmclmnaaGreat
variable {W' w w' w0:World} {B a b base c ca cap f g i j k k1 k2 m n oc sb sc:Nat} {choice e t x:Int} {W fs l o z:List Int} {A T:List Nat} {op p p1 p2 pa pe pn q sp:Option Addr} {d:Hd} {S S':Hp.Hs} {L:List Hp.Tl} {M:List (Nat × Int)}
namespace Hp
theorem adrs_of:∀ {l:List Int},(∀ x ∈ l,∃ b:Nat,x=(b:Int)) -> ∃ r,Hs.adrs l=some r/\r.length=l.length /\ ∀ b,b ∈ r ↔ (b:Int) ∈ l
 | [],_=>⟨[],rfl,rfl,by simp⟩
 | x :: l,h=>by
  obtain ⟨b,rfl⟩:=h x (by simp);obtain ⟨r,h1,h2,h3⟩:=adrs_of (l:=l) fun y hy=>h y (by simp [hy])
  refine ⟨b :: r, ?_,by simp [h2],fun c=>?_⟩
  . unfold Hs.adrs at h1 ⊢;rw [List.mapM_cons];have:adr (b:Int)=some b:=by simp [adr]
    rw [this,h1];rfl
  simp only [List.mem_cons,h3];constructor
  . rintro (e | e)
    . exact .inl (by omega)
    exact .inr e
  rintro (e | e)
  . exact .inl (by omega)
  exact .inr e
def pot (f:Nat->Int) (z:List Int) (L:List Nat):List Nat->Nat
 | []=>0
 | b :: r=>(if L.contains b then 0 else (kz f z b).length)+pot f z L r
theorem pot_le {f:Nat->Int} {z:List Int} (L:List Nat):∀ T:List Nat,pot f z L T<=widths f z T
 | []=>Nat.le_refl _
 | b :: r=>by
  have:=pot_le (f:=f) (z:=z) L r;have:=kz_len (f:=f) (z:=z) (a:=b);unfold pot widths
  split <;> omega
theorem pot_out {f:Nat->Int} {z:List Int} {L:List Nat} {a:Nat}:∀ {T:List Nat},a ∉ T->pot f z (Hs.insert a L) T=pot f z L T
 | [],_=>rfl
 | b :: r,h=>by
  have h1:b ≠ a:=fun e=>h (by simp [e])
  have e:(Hs.insert a L).contains b=L.contains b:=by
   rw [Bool.eq_iff_iff];simp [mem_insert,h1]
  unfold pot;rw [e,pot_out fun hm=>h (by simp [hm])]
theorem pot_ins {f:Nat->Int} {z:List Int} {L:List Nat} {a:Nat} (hL:a ∉ L):∀ {T:List Nat},T.Pairwise (· < ·)->a ∈ T->pot f z (Hs.insert a L) T+(kz f z a).length=pot f z L T
 | [],_,h=>by cases h
 | b :: r,hp,h=>by
  obtain ⟨h1,h2⟩:=List.pairwise_cons.1 hp
  by_cases e:b=a
  . subst e;have hr:b ∉ r:=fun hm=>by have:=h1 b hm;omega
    have e1:(Hs.insert b L).contains b=true:=by simp [mem_insert]
    have e2:L.contains b=false:=by simpa using hL
    unfold pot;rw [e1,e2,pot_out hr];simp;omega
  have hr:a ∈ r:=by
   rcases List.mem_cons.1 h with h' | h'
   . exact absurd h'.symm e
   exact h'
  have e1:(Hs.insert a L).contains b=L.contains b:=by
   rw [Bool.eq_iff_iff];simp [mem_insert,e]
  have:=pot_ins (f:=f) (z:=z) hL h2 hr;unfold pot;rw [e1];omega
theorem Wf.adrs_ {ch:Nat->List Nat} (h:Wf S B L ch) (ha:a ∈ S.taken):∃ r,Hs.adrs (kz (ow S.words) S.sizes a)=some r/\r.length=(kz (ow S.words) S.sizes a).length /\ ∀ b ∈ r,b ∈ S.taken:=by
 obtain ⟨r,h1,h2,h3⟩:=adrs_of (l:=kz (ow S.words) S.sizes a) fun x hx=>by
  obtain ⟨b,_,e,_⟩:=h.cells.kids a ha x hx;exact ⟨b,e⟩
 refine ⟨r,h1,h2,fun b hb=>?_⟩
 obtain ⟨b',hb',e,_⟩:=h.cells.kids a ha _ ((h3 b).1 hb)
 have:b=b':=by omega
 rw [this]
 exact hb'
theorem mark_total {S:Hs} {B:Nat} {Lt:List Tl} {ch:Nat->List Nat} (h:Wf S B Lt ch):∀ (n:Nat) (L st:List Nat),(∀ a ∈ st,a ∈ S.taken)->st.length+pot (ow S.words) S.sizes L S.taken<=n -> ∃ r,S.markFrom n L st=some r
 | n,L,[],_,_=>⟨L,by cases n <;> rfl⟩
 | 0,L,a :: st,_,hn=>by simp at hn
 | n+1,L,a :: st,hs,hn=>by
  simp only [List.length_cons] at hn;unfold Hs.markFrom
  by_cases hc:L.contains a=true
  . rw [if_pos hc];exact mark_total h n L st (fun b hb=>hs b (by simp [hb])) (by omega)
  rw [if_neg hc];have ha:=hs a (by simp);obtain ⟨r,h1,h2,h3⟩:=h.adrs_ ha;rw [h.kids_ ha];simp only [Option.bind_eq_bind,Option.bind_some,h1];have:=pot_ins (f:=ow S.words) (z:=S.sizes) (L:=L) (a:=a) (by simpa using hc) h.up ha;exact mark_total h n _ _ (fun b hb=>by
   rcases List.mem_append.1 hb with hb | hb
   . exact h3 b hb
   . exact hs b (by simp [hb])) (by rw [List.length_append];omega)
theorem held_total {S:Hs}:∀ {T:List Nat},(∀ a ∈ T,a+2 < S.words.length) -> ∃ r,S.held T=some r/\r.length<=T.length /\ ∀ a ∈ r,a ∈ T
 | [],_=>⟨[],rfl,Nat.le_refl _,by simp⟩
 | a :: r,h=>by
  obtain ⟨q,h1,h2,h3⟩:=held_total (S:=S) (T:=r) fun b hb=>h b (by simp [hb])
  unfold Hs.held;rw [h1,rd_ow (h a (by simp))];simp only [Option.bind_eq_bind,Option.bind_some]
  split
  . refine ⟨a :: q,rfl,by simp;omega,fun b hb=>?_⟩
    rcases List.mem_cons.1 hb with rfl | hb
    . simp
    simp [h3 b hb]
  exact ⟨q,rfl,by simp;omega,fun b hb=>by simp [h3 b hb]⟩
theorem live_total {ch:Nat->List Nat} (h:Wf S B L ch):∃ T,S.live=some T:=by
 obtain ⟨R,h1,h2,h3⟩:=held_total (S:=S) (T:=S.taken) fun a ha=>by have:=h.part ha;omega
 unfold Hs.live
 rw [h1]
 simp only [Option.bind_eq_bind,Option.bind_some]
 have:=pot_le (f:=ow S.words) (z:=S.sizes) [] S.taken
 have:=h.widths_
 have:=h.few
 exact mark_total h _ [] R h3 (by omega)
theorem unlinkFrom_spec (live:List Nat):∀ (r:List Nat) (m l:Nat) (W:List Int),Path (ow W) l r->r.Nodup->(∀ a ∈ r,l ≠ a+3/\a+3 < W.length)->l < W.length->r.length < m ->
    ∃ W',Hs.unlinkFrom live m W l=some W'/\W'.length=W.length/\Path (ow W') l (r.filter fun a=>live.contains a) /\ ∀ j,j ≠ l->(∀ a ∈ r,j ≠ a+3)->ow W' j=ow W j
  | [],m,l,W,hp,_,_,hl,hm=>by
   cases m with
   | zero=>simp at hm
   | succ m=>
    have e:ow W l=0:=hp;refine ⟨W, ?_,rfl,hp,fun _ _ _=>rfl⟩;unfold Hs.unlinkFrom;rw [ra_ow (a:=0) hl (by simpa using e)];rfl
  | a :: r,m,l,W,hp,hd,hr,hl,hm=>by
   cases m with
   | zero=>simp at hm
   | succ m=>
    obtain ⟨e,h0,hp⟩:=hp;obtain ⟨d1,d2⟩:=List.nodup_cons.1 hd;have hra:=hr a (by simp);simp only [List.length_cons] at hm;unfold Hs.unlinkFrom;rw [ra_ow hl e];simp only [Option.bind_eq_bind,Option.bind_some];rw [if_neg h0]
    by_cases hv:live.contains a=true
    . rw [if_pos hv];have hne:∀ b ∈ r,a+3 ≠ b+3:=fun b hb e'=>d1 (by rw [show a=b by omega];exact hb)
      obtain ⟨W',w1,w2,w3,w4⟩:=unlinkFrom_spec live r m (a+3) W hp d2 (fun b hb=>⟨hne b hb,(hr b (by simp [hb])).2⟩) hra.2 (by omega);refine ⟨W',w1,w2, ?_,fun j h1 h2=>w4 j (h2 a (by simp)) fun b hb=>h2 b (by simp [hb])⟩;rw [List.filter_cons_of_pos hv];refine ⟨?_,h0,w3⟩;rw [w4 l hra.1 fun b hb=>(hr b (by simp [hb])).1];exact e
    rw [if_neg hv,rd_ow hra.2];simp only [Option.bind_some];obtain ⟨W1,e1,l1,g1⟩:=wr_ow (W:=W) (i:=l) (ow W (a+3)) hl;rw [e1];simp only [Option.bind_some];obtain ⟨W',w1,w2,w3,w4⟩:=unlinkFrom_spec live r m l W1 (hp.move (by rw [g1,if_pos rfl]) fun b hb=>by rw [g1,if_neg (hr b (by simp [hb])).1.symm]) d2 (fun b hb=>by rw [l1];exact hr b (by simp [hb])) (by omega) (by omega);refine ⟨W',w1,w2.trans l1, ?_,fun j h1 h2=>?_⟩
    . rw [List.filter_cons_of_neg hv];exact w3
    rw [w4 j h1 fun b hb=>h2 b (by simp [hb]),g1,if_neg h1]
theorem unlinks_spec (live:List Nat) (m:Nat) (ch:Nat->List Nat) (hdis:∀ c c' a,a ∈ ch c->a ∈ ch c'->c=c') (hnd:∀ c,c < 16->(ch c).Nodup):∀ (l:List Nat) (W:List Int),l.Nodup->16<=W.length->(∀ c ∈ l,c < 16/\Path (ow W) c (ch c)/\(ch c).length < m /\ ∀ a ∈ ch c,17<=a/\a+3 < W.length) ->
    ∃ W',Hs.unlinks live m W l=some W'/\W'.length=W.length/\(∀ c ∈ l,Path (ow W') c ((ch c).filter fun a=>live.contains a)) /\ ∀ j,(∀ c ∈ l,j ≠ c /\ ∀ a ∈ ch c,j ≠ a+3)->ow W' j=ow W j
  | [],W,_,_,_=>⟨W,rfl,rfl,by simp,fun _ _=>rfl⟩
  | c :: l,W,hl,h16,h=>by
   obtain ⟨d1,d2⟩:=List.nodup_cons.1 hl;obtain ⟨hc,hp,hm,hr⟩:=h c (by simp);obtain ⟨W1,w1,w2,w3,w4⟩:=unlinkFrom_spec live (ch c) m c W hp (hnd c hc) (fun a ha=>⟨by have:=hr a ha;omega,(hr a ha).2⟩) (by omega) hm;have k1:∀ c' ∈ l,ow W1 c'=ow W c':=fun c' hc'=>w4 c' (fun e=>d1 (e ▸ hc')) fun a ha=>by have:=hr a ha;have:=(h c' (by simp [hc'])).1;omega
   have k2:∀ c' ∈ l,∀ a ∈ ch c',ow W1 (a+3)=ow W (a+3):=fun c' hc' a ha=>w4 (a+3) (by have:=(h c' (by simp [hc'])).2.2.2 a ha;omega) fun b hb e=>by
    have:a=b:=by omega
    subst this;exact d1 (hdis c c' a hb ha ▸ hc')
   obtain ⟨W',v1,v2,v3,v4⟩:=unlinks_spec live m ch hdis hnd l W1 d2 (by omega) fun c' hc'=>by
    obtain ⟨q1,q2,q3,q4⟩:=h c' (by simp [hc']);exact ⟨q1,q2.congr (k1 c' hc') (k2 c' hc'),q3,by rw [w2];exact q4⟩
   refine ⟨W', ?_,v2.trans w2,fun c' hc'=>?_,fun j hj=>?_⟩
   . unfold Hs.unlinks;rw [w1];exact v1
   . rcases List.mem_cons.1 hc' with rfl | hc'
     . refine w3.congr (v4 c' fun c2 hc2=>⟨fun e=>d1 (e ▸ hc2),fun a ha=>by have:=(h c2 (by simp [hc2])).2.2.2 a ha;omega⟩) fun a ha=>v4 (a+3) fun c2 hc2=>⟨?_,fun b hb e=>?_⟩
       . have:=hr a ((List.mem_filter.1 ha).1);have:=(h c2 (by simp [hc2])).1;omega
       have:a=b:=by omega
       subst this;exact d1 (hdis c' c2 a ((List.mem_filter.1 ha).1) hb ▸ hc2)
     exact v3 c' hc'
   rw [v4 j fun c' hc'=>hj c' (by simp [hc']),w4 j (hj c (by simp)).1 (hj c (by simp)).2]
theorem unuse_spec {S:Hs} {B:Nat} {L:List Tl} {ch:Nat->List Nat} (h:Wf S B L ch):∀ (D:List Nat) (W:List Int),(∀ a ∈ D,a ∈ S.taken)->W.length=S.words.length->Same (ow S.words) (ow W) S.sizes S.taken ->
    (∀ b ∈ S.taken,-1000000+(widths (ow S.words) S.sizes D:Int)<=ow W (b+1)/\ow W (b+1)<=1000000) ->
    ∃ W',Hs.unuse { S with words:=W } D=some { S with words:=W' } /\ W'.length=S.words.length/\(∀ j,(∀ b ∈ S.taken,j ≠ b+1)->ow W' j=ow W j) /\ ∀ b ∈ S.taken,ow W' (b+1)=ow W (b+1)-cnt (ow S.words) S.sizes b D
  | [],W,_,hl,_,_=>⟨W,rfl,hl,fun _ _=>rfl,fun b _=>by simp [cnt]⟩
  | a :: D,W,hD,hl,hs,hb=>by
   have ha:=hD a (by simp);have pa:=h.part ha;have ek:kz (ow W) S.sizes a=kz (ow S.words) S.sizes a:=hs.kz_ ha;have hk:Hs.kids { S with words:=W } a=some (kz (ow S.words) S.sizes a):=by
    rw [<- ek];exact kids_ow (S:={ S with words:=W }) h.fr.toFr (by show okTag S.sizes (ow W a)=true;rw [(hs a ha).1];exact h.cells.tags a ha) (by show a+wz S.sizes (ow W a)<=W.length;rw [(hs a ha).1];omega)
   have kl:=kz_len (f:=ow S.words) (z:=S.sizes) (a:=a);have cutk:cut (ow W) (a+4) (kz (ow S.words) S.sizes a).length=kz (ow S.words) S.sizes a:=by
    rw [<- ek];unfold kz
    split
    . rfl
    unfold fz;rw [cut_length]
   have hwk:=widths (ow S.words) S.sizes D;obtain ⟨W1,e1,l1,g1⟩:=use_spec (-1) (by omega) (kz (ow S.words) S.sizes a).length (a+4) W (by omega) (fun i hi=>by
    have hm:ow W (a+4+i) ∈ kz (ow S.words) S.sizes a:=by
     rw [<- cutk];exact mem_cut.2 ⟨i,hi,rfl⟩
    obtain ⟨b,hb',e,_⟩:=h.cells.kids a ha _ hm;have h1:=h.part hb';have h2:=hb b hb';have h3:b+1 < a+4 \/ a+4+(kz (ow S.words) S.sizes a).length<=b+1:=by
     rcases h.sep hb' ha with e | e | e
     . subst e;left;omega
     . left;omega
     right;omega
    exact ⟨b,e,by omega,h3,by omega,by omega⟩)
   rw [cutk] at g1;have hx:∀ x ∈ kz (ow S.words) S.sizes a,∃ b ∈ S.taken,x=(b:Int):=fun x hx=>by
    obtain ⟨b,hb',e,_⟩:=h.cells.kids a ha x hx;exact ⟨b,hb',e⟩
   have f1:∀ j,(∀ b ∈ S.taken,j ≠ b+1)->ow W1 j=ow W j:=fun j hj=>by
    rw [g1,List.count_eq_zero.2]
    . simp
    intro hm;obtain ⟨b,hb',e⟩:=hx _ hm;exact hj b hb' (by omega)
   have f2:∀ b ∈ S.taken,ow W1 (b+1)=ow W (b+1)-((kz (ow S.words) S.sizes a).count (b:Int):Nat):=fun b _=>by
    rw [g1]
    push_cast
    rw [show (b:Int)+1-1=b by omega];omega
   have hs1:Same (ow S.words) (ow W1) S.sizes S.taken:=fun b hb'=>by
    have pb:=h.part hb';refine ⟨?_,fun i hi=>?_⟩
    . rw [f1 b fun c hc=>?_,(hs b hb').1];have:=h.ne hb' hc (i:=0) (j:=1) (by omega) (by have:=h.part hc;omega) (.inr (by omega))
      simpa using this
    rw [f1 _ fun c hc=>?_,(hs b hb').2 i hi];have:=h.ne hb' hc (i:=4+i) (j:=1) (by omega) (by have:=h.part hc;omega) (.inr (by omega));omega
   obtain ⟨W',v1,v2,v3,v4⟩:=unuse_spec h D W1 (fun b hb'=>hD b (by simp [hb'])) (l1.trans hl) hs1 (fun b hb'=>by
    have h1:=hb b hb';have h2:=List.count_le_length (a:=(b:Int)) (l:=kz (ow S.words) S.sizes a);rw [f2 b hb'];have h3:widths (ow S.words) S.sizes (a :: D)=wz S.sizes (ow S.words a)+widths (ow S.words) S.sizes D:=rfl;rw [h3] at h1;omega)
   refine ⟨W', ?_,v2,fun j hj=>(v3 j hj).trans (f1 j hj),fun b hb'=>?_⟩
   . unfold Hs.unuse;rw [hk];simp only [Option.bind_eq_bind,Option.bind_some,e1];exact v1
   rw [v4 b hb',f2 b hb',show cnt (ow S.words) S.sizes b (a :: D)=(kz (ow S.words) S.sizes a).count (b:Int)+cnt (ow S.words) S.sizes b D from rfl]
   push_cast
   omega
end Hp
namespace Hp
def lastB:Nat->List Tl->Nat
 | b,[]=>b
 | b,t :: r=>if t.fr then lastB t.a r else lastB b r
theorem Lay.cast {s:Nat} (h:Lay s L n) (e:n=m):Lay s L m:=e ▸ h
theorem seek_spec {W:List Int} {a:Nat} {X:List Tl} (hX:headF X 0=0 \/ (a:Int)<=headF X 0):∀ (P:List Tl) (b l m s:Nat),Links (ow W) l (P ++ X) 0->Lay s P a->l < s->l < W.length->a < W.length->P.length < m->Hs.seek W a m b l=some (lastB b P,lastL l P)
 | [],b,l,m,s,h,_,_,hl,_,hm=>by
  cases m with
  | zero=>simp at hm
  | succ m=>
   have e:ow W l=headF X 0:=Links.head h;have h0:0<=ow W l:=by rcases hX with h | h <;> omega
   unfold Hs.seek;rw [ra_ow (a:=(ow W l).toNat) hl (by omega)];simp only [Option.bind_eq_bind,Option.bind_some];rw [if_neg (by omega)];rfl
 | t :: r,b,l,m,s,h,hL,hls,hl,ha,hm=>by
  obtain ⟨h1,h2,h3⟩:=hL;simp only [List.cons_append] at h;simp only [List.length_cons] at hm;unfold Links at h
  cases hf:t.fr with
  | false=>
   rw [hf] at h;simp only [Bool.false_eq_true,if_false] at h;have:=seek_spec hX r b l m _ h h3 (by omega) hl ha (by omega)
   simpa [lastB,lastL,hf] using this
  | true=>
   rw [hf] at h;simp only [if_true] at h
   cases m with
   | zero=>simp at hm
   | succ m=>
    have hle:=h3.le;have:=seek_spec hX r t.a (t.a+2) m _ h.2 h3 (by omega) (by omega) ha (by omega);unfold Hs.seek;rw [ra_ow hl h.1];simp only [Option.bind_eq_bind,Option.bind_some];rw [if_pos (by omega),this];simp [lastB,lastL,hf]
theorem last_split:∀ (P:List Tl) (b l:Nat),((∀ t ∈ P,t.fr=false)/\lastB b P=b/\lastL l P=l) \/ ∃ P1 v P2,P=P1 ++ v :: P2/\v.fr=true/\(∀ t ∈ P2,t.fr=false)/\lastB b P=v.a/\lastL l P=v.a+2
 | [],b,l=>.inl ⟨by simp,rfl,rfl⟩
 | t :: r,b,l=>by
  cases hf:t.fr with
  | false=>
   rcases last_split r b l with ⟨h1,h2,h3⟩ | ⟨P1,v,P2,rfl,h2,h3,h4,h5⟩
   . refine .inl ⟨fun u hu=>?_,by simpa [lastB,hf] using h2,by simpa [lastL,hf] using h3⟩
     rcases List.mem_cons.1 hu with rfl | hu
     . exact hf
     exact h1 u hu
   exact .inr ⟨t :: P1,v,P2,rfl,h2,h3,by simpa [lastB,hf] using h4,by simpa [lastL,hf] using h5⟩
  | true=>
   rcases last_split r t.a (t.a+2) with ⟨h1,h2,h3⟩ | ⟨P1,v,P2,rfl,h2,h3,h4,h5⟩
   . exact .inr ⟨[],t,r,rfl,hf,h1,by simpa [lastB,hf] using h2,by simpa [lastL,hf] using h3⟩
   exact .inr ⟨t :: P1,v,P2,rfl,h2,h3,by simpa [lastB,hf] using h4,by simpa [lastL,hf] using h5⟩
theorem headF_ge {s n:Nat}:∀ {Q:List Tl},Lay s Q n->headF Q 0=0 \/ (s:Int)<=headF Q 0
 | [],_=>.inl rfl
 | t :: r,h=>by
  obtain ⟨h1,h2,h3⟩:=h;unfold headF
  cases t.fr
  . rcases headF_ge h3 with h | h
    . exact .inl (by simpa using h)
    right;simp only [Bool.false_eq_true,if_false];omega
  right;simp;omega
structure Right (W1 W2:List Int) (z:List Int) (a k k2 n:Nat) (nx:Int) (Q Q2:List Tl):Prop where
 len:W2.length=W1.length
 lay:Lay (a+k2) Q2 n
 le:k<=k2
 hd:hdF Q2=false
 nxe:nx=headF Q2 0
 ads:adsOf Q2=adsOf Q
 sub:∀ t ∈ Q2,t ∈ Q
 sep:Sep Q2
 out:∀ j,j < a+k \/ a+k2<=j->ow W2 j=ow W1 j
 inn:∀ j,a+k<=j->j < a+k2->ow W2 j=0
 links:∀ (g:Nat->Int) (l':Nat),g l'=nx->(∀ t ∈ Q2,t.fr=true->g (t.a+2)=ow W1 (t.a+2))->Links g l' Q2 0
theorem join_run {W1 W2 W3 : List Int} {x y : Nat} {k w after s : Int} (h1 : rd W1 x = some after) (h2 : rc W1 y = some w) (h3 : ck (k + w) = some s) (h4 : wr W1 y 0 = some W2) (h5 : wr W2 x 0 = some W3) : (do
      let after <- rd W1 x
      let w <- rc W1 y
      some (<- ck (k+w),after,<- wr (<- wr W1 y 0) x 0):Option (Int × Int × List Int))=some (s,after,W3):=by
  rw [h1,h2];simp only [Option.bind_eq_bind,Option.bind_some];rw [h3,h4];simp only [Option.bind_some];rw [h5];rfl
theorem right_spec {W1:List Int} {link:Nat} {Q:List Tl} (hk:3<=k) (hn:W1.length<=100000) (hl:link < W1.length) (h:Links (ow W1) link Q 0) (hL:Lay (a+k) Q W1.length) (hS:Sep Q) (hp:∀ t ∈ Q,PartOk (ow W1) z t) :
    ∃ k2 nx W2 Q2,(if ow W1 link=((a+k:Nat):Int) then do
     let after <- rd W1 (a+k+2)
     let w <- rc W1 (a+k+1)
     some (<- ck (((k:Nat):Int)+w),after,<- wr (<- wr W1 (a+k+1) 0) (a+k+2) 0)
    else some (((k:Nat):Int),ow W1 link,W1):Option (Int × Int × List Int))=some (((k2:Nat):Int),nx,W2)/\Right W1 W2 z a k k2 W1.length nx Q Q2:=by
  cases Q with
  | nil=>
   have e:ow W1 link=0:=h;refine ⟨k,0,W1,[], ?_,rfl,hL,Nat.le_refl _,rfl,rfl,rfl,by simp,trivial,fun _ _=>rfl,fun j h1 h2=>by omega,fun g l' e' _=>e'⟩;rw [if_neg (by omega),e]
  | cons v Q=>
   obtain ⟨l1,l2,l3⟩:=hL;obtain ⟨s1,s2⟩:=Sep.cons.1 hS
   cases hf:v.fr with
   | false=>
    have e:=h.head;unfold headF at e;rw [hf] at e;simp only [Bool.false_eq_true,if_false] at e;have hg:=headF_ge l3;refine ⟨k,ow W1 link,W1,v :: Q, ?_,rfl,⟨l1,l2,l3⟩,Nat.le_refl _,hf,h.head,rfl,by simp,hS,fun _ _=>rfl,fun j h1 h2=>by omega,fun g l' e' hm=>h.move e' hm⟩;rw [if_neg (by omega)]
   | true=>
    have hv:=(hp v (by simp)).free hf;unfold Links at h;rw [hf] at h;simp only [if_true] at h;have hle:=l3.le;rw [l1] at hv h;obtain ⟨W2,e2,q2,g2⟩:=wr_ow (W:=W1) (i:=a+k+1) 0 (by omega);obtain ⟨W3,e3,q3,g3⟩:=wr_ow (W:=W2) (i:=a+k+2) 0 (by omega);have hhd:hdF Q=false:=by
     cases hq:hdF Q with
     | false=>rfl
     | true=>exact absurd ⟨hf,hq⟩ s1
    have had:adsOf Q=adsOf (v :: Q):=by
     simp [adsOf,hf]
    refine ⟨k+v.k,ow W1 (a+k+2),W3,Q, ?_,q3.trans q2, ?_,by omega,hhd,h.2.head,had,fun t ht=>by simp [ht],s2,fun j hj=>?_,fun j h1 h2=>?_,fun g l' e' hm=>h.2.move e' fun t ht hf'=>hm t ht hf'⟩
    . rw [if_pos h.1];have h2:rc W1 (a+k+1)=some (v.k:Int):=by
       rw [rc_ow (by omega) (by rw [hv.2.1];omega) (by rw [hv.2.1];omega),hv.2.1]
      have h3:ck ((k:Int)+(v.k:Int))=some (((k+v.k:Nat)):Int):=by
       rw [Int.natCast_add];exact ck_in (by omega) (by omega)
      exact join_run (rd_ow (by omega)) h2 h3 e2 e3
    . rw [<- Nat.add_assoc];exact l3
    . rw [g3,g2,if_neg (by omega),if_neg (by omega)]
    rw [g3,g2]
    split
    . rfl
    split
    . rfl
    by_cases e:j=a+k
    . rw [e];exact hv.1
    exact hv.2.2 j (by omega) (by omega)
theorem ltF_none:∀ {P:List Tl},(∀ t ∈ P,t.fr=false)->ltF P=false
 | [],_=>rfl
 | [t],h=>h t (by simp)
 | t :: u :: r,h=>by
  have:=ltF_none (P:=u :: r) fun v hv=>h v (by simp [hv])
  simpa [ltF] using this
theorem ltF_app:∀ {X P:List Tl},P ≠ []->ltF (X ++ P)=ltF P
 | [],_,_=>rfl
 | [t],p :: P,_=>by simp [ltF]
 | t :: u :: X,P,h=>by
  have:=ltF_app (X:=u :: X) h
  simpa [ltF] using this
structure Freed (S S':Hs) (z:List Int) (L L':List Tl) (a:Nat):Prop where
 sizes:S'.sizes=S.sizes
 order:S'.order=S.order
 len:S'.words.length=S.words.length
 taken:S'.taken=S.taken.erase a
 parts:Parts (ow S'.words) z L' S.words.length
 ads:∀ b,b ∈ adsOf L' ↔ b ∈ adsOf L/\b ≠ a
 low:∀ j,j < 16->ow S'.words j=ow S.words j
 keep:∀ t ∈ L,t.fr=false->t.a ≠ a -> ∀ j,t.a<=j->j < t.a+t.k->ow S'.words j=ow S.words j
set_option maxHeartbeats 2000000 in
theorem free_spec {P Q:List Tl} (hz:Fr S.sizes) (hn:S.words.length<=100000) (h:Parts (ow S.words) S.sizes (P ++ ⟨a,k,false⟩ :: Q) S.words.length) :
    ∃ S' L',S.free a=some S'/\Freed S S' S.sizes (P ++ ⟨a,k,false⟩ :: Q) L' a:=by
  have hmem:(⟨a,k,false⟩:Tl) ∈ P ++ ⟨a,k,false⟩ :: Q:=by simp
  have hcell:=(h.ok _ hmem).cell rfl;have hum:=h.lay.mem hmem;obtain ⟨lP,l3,lQ⟩:=h.lay.parts;simp only at hcell hum lP l3 lQ;have hwz:=wz_ok hz hcell.1;rw [<- hcell.2] at hwz;obtain ⟨W1,e1,q1,g1⟩:=zero_ow (W:=S.words) (i:=a) (n:=k) (by omega);have hLl:=lay_len_ h.lay;simp only [List.length_append,List.length_cons] at hLl;obtain ⟨s1,s2,s3⟩:=Sep.app.1 h.sep;obtain ⟨s4,s5⟩:=Sep.cons.1 s2
  -- the words of the others
  have hout:∀ j,j < a \/ a+k<=j->ow W1 j=ow S.words j:=fun j hj=>by rw [g1,if_neg (by omega)]
  have mP:∀ t ∈ P,17<=t.a/\t.a+t.k<=a/\3<=t.k:=fun t ht=>lP.mem ht
  have mQ:∀ t ∈ Q,a+k<=t.a/\t.a+t.k<=S.words.length/\3<=t.k:=fun t ht=>lQ.mem ht
  have L1:Links (ow W1) 16 (P ++ Q) 0:=by
   have:Links (ow S.words) 16 (P ++ Q) 0:=by
    have:=h.links;rw [Links.app] at this ⊢;exact this
   refine this.congr (hout _ (by omega)) fun t ht _=>hout _ ?_
   rcases List.mem_append.1 ht with ht | ht
   . have:=mP t ht;omega
   have:=mQ t ht;omega
  have pQ:∀ t ∈ Q,PartOk (ow W1) S.sizes t:=fun t ht=>by
   have:=mQ t ht;exact (h.ok t (by simp [ht])).congr (hout _ (by omega)) fun _=>⟨hout _ (by omega),fun j _ _=>hout _ (by omega)⟩
  have pP:∀ t ∈ P,PartOk (ow W1) S.sizes t:=fun t ht=>by
   have:=mP t ht;exact (h.ok t (by simp [ht])).congr (hout _ (by omega)) fun _=>⟨hout _ (by omega),fun j _ _=>hout _ (by omega)⟩
  have hll:=lastL_lt lP (l:=16) (by omega)
  have hseek := seek_spec (W := W1) (a := a) (X := Q) (by rcases headF_ge lQ with h | h; · exact .inl h
                                                          . exact .inr (by omega)) P 0 16 S.fuel 17 L1 lP (by omega) (by omega) (by omega) (by unfold Hs.fuel;omega)
  obtain ⟨k1,k2'⟩:=Links.app.1 L1;obtain ⟨k2,nx,W2,Q2,hR,R⟩:=right_spec (W1:=W1) (z:=S.sizes) (a:=a) (k:=k) (link:=lastL 16 P) (Q:=Q) (by omega) (by omega) (by omega) k2' (by rw [q1];exact lQ) s5 pQ;generalize hlk:lastL 16 P=link at *;generalize hbf:lastB 0 P=before at *;have q2:=R.len;have r2:=R.out;have r3:=R.inn;have r4:=R.le;have r5:=R.lay.le;have zer:∀ j,a<=j->j < a+k2->ow W2 j=0:=fun j h1 h2=>by
   by_cases hj:j < a+k
   . rw [r2 j (.inl hj),g1,if_pos ⟨h1,hj⟩]
   exact r3 j (by omega) h2
  have outs:∀ j,j < a \/ a+k2<=j->ow W2 j=ow S.words j:=fun j hj=>by
   rw [r2 j (by omega),hout j (by omega)]
  have hfree:S.free a=(do
      let joined <- (if before ≠ 0 then do some (decide ((before:Int)+(<- rc W2 (before+1))=a)) else some false:Option Bool)
      if joined then
       let w <- rc W2 (before+1)
       return { S with words:=(<- wr (<- wr W2 (before+1) (w+k2)) (before+2) nx),taken:=S.taken.erase a }
      else
       return { S with words:=(<- wr (<- wr (<- wr W2 (a+1) k2) (a+2) nx) link a),taken:=S.taken.erase a }):=by
    unfold Hs.free;rw [wideAt_ow hz (by omega) hcell.1,<- hcell.2];simp only [Option.bind_eq_bind,Option.bind_some,e1,hseek];rw [rd_ow (by omega:link < W1.length)];simp only [Option.bind_some];have hR':=hR;simp only [Option.bind_eq_bind] at hR';rw [hR'];rfl
  have mQ2:∀ t ∈ Q2,a+k2<=t.a/\t.a+t.k<=S.words.length/\3<=t.k:=fun t ht=>by
   have:=R.lay.mem ht;omega
  have hads0:adsOf (P ++ ⟨a,k,false⟩ :: Q)=adsOf P ++ a :: adsOf Q:=by
   rw [adsOf_app];show adsOf P ++ adsOf ([⟨a,k,false⟩] ++ Q)=_;rw [adsOf_app];rfl
  have nP:a ∉ adsOf P:=fun hm=>by
   obtain ⟨t,ht,_,e⟩:=mem_adsOf.1 hm;have:=mP t ht;omega
  have nQ:a ∉ adsOf Q:=fun hm=>by
   obtain ⟨t,ht,_,e⟩:=mem_adsOf.1 hm;have:=mQ t ht;omega
  -- no free part ends where the cell begins
  have FAR:ltF P=false->True->(do (if before ≠ 0 then do some (decide ((before:Int)+(<- rc W2 (before+1))=a)) else some false:Option Bool))=some false -> ∃ S' L',S.free a=some S'/\Freed S S' S.sizes (P ++ ⟨a,k,false⟩ :: Q) L' a:=by
   intro hlt _ hj;obtain ⟨W3,e3,q3,g3⟩:=wr_ow (W:=W2) (i:=a+1) (k2:Int) (by omega);obtain ⟨W4,e4,q4,g4⟩:=wr_ow (W:=W3) (i:=a+2) nx (by omega);obtain ⟨W5,e5,q5,g5⟩:=wr_ow (W:=W4) (i:=link) (a:Int) (by omega);have G:∀ j,ow W5 j=if j=link then (a:Int) else if j=a+2 then nx else if j=a+1 then (k2:Int) else ow W2 j:=fun j=>by rw [g5,g4,g3]
   have linkP:link=16 \/ ∃ v ∈ P,v.fr=true/\link=v.a+2:=by
    rw [<- hlk];exact lastL_where
   have GO:∀ j,(j < a \/ a+k2<=j)->j ≠ link->ow W5 j=ow S.words j:=fun j h1 h2=>by
    rw [G,if_neg h2,if_neg (by omega),if_neg (by omega)];exact outs j h1
   refine ⟨{ S with words:=W5,taken:=S.taken.erase a },P ++ ⟨a,k2,true⟩ :: Q2, ?_,rfl,rfl,by show W5.length=_;omega,rfl,⟨Lay.app.2 ⟨a,lP,rfl,by show 3<=k2;omega,R.lay.cast q1⟩,Links.app.2 ⟨?_, ?_⟩,Sep.app.2 ⟨s1,Sep.cons.2 ⟨by rw [R.hd];simp,R.sep⟩,by rw [hlt];simp⟩,fun t ht=>?_⟩,fun b=>?_,fun j hj=>GO j (by omega) (by omega),fun t ht hf hne j h1 h2=>?_⟩
   . rw [hfree,hj];simp only [Option.bind_eq_bind,Option.bind_some,Bool.false_eq_true,if_false,e3,e4,e5];rfl
   . refine k1.turn _ lP (by omega) ?_ (fun hne=>?_) fun v hv hf hne=>?_
     . rw [hlk,G,if_pos rfl];rfl
     . rw [hlk] at hne;rw [GO _ (by omega) hne,hout _ (by omega)]
     rw [hlk] at hne;have:=mP v hv;rw [GO _ (by omega) hne,hout _ (by omega)]
   . rw [hlk];refine ⟨by show ow W5 link=(a:Int);rw [G,if_pos rfl],R.links _ _ ?_ fun t ht _=>?_⟩
     . show ow W5 (a+2)=nx;rw [G,if_neg (by omega),if_pos rfl]
     have:=mQ2 t ht;rw [GO _ (by omega) (by omega),hout _ (by omega)]
   . have hcase:t ∈ P \/ t=⟨a,k2,true⟩ \/ t ∈ Q2:=by simpa using ht
     rcases hcase with ht | rfl | ht
     . have hm:=mP t ht;have nl:∀ j,t.a<=j->j < t.a+t.k->(j=t.a+2->t.fr=false)->j ≠ link:=fun j h1 h2 h3=>by
        rcases linkP with e | ⟨v',hv',hvf',e⟩
        . omega
        have h1':=mP v' hv'
        rcases lP.sep ht hv' with e2 | e2
        . rw [e,<- e2];intro e3;have:=h3 e3;rw [e2,hvf'] at this
          cases this
        omega
       refine (h.ok t (by simp [ht])).congr (GO _ (by omega) (nl _ (by omega) (by omega) (by omega))) fun hf=>⟨GO _ (by omega) (nl _ (by omega) (by omega) (by omega)),fun j h1 h2=>GO _ (by omega) (nl _ (by omega) (by omega) (by omega))⟩
     . unfold PartOk;simp only [if_true];refine ⟨?_, ?_,fun j h1 h2=>?_⟩
       . rw [G,if_neg (by omega),if_neg (by omega),if_neg (by omega)];exact zer _ (by omega) (by omega)
       . rw [G,if_neg (by omega),if_neg (by omega),if_pos rfl]
       rw [G,if_neg (by omega),if_neg (by omega),if_neg (by omega)];exact zer _ (by omega) (by omega)
     have hm:=mQ2 t ht;exact (h.ok t (by simp [R.sub t ht])).congr (GO _ (by omega) (by omega)) fun hf=>⟨GO _ (by omega) (by omega),fun j h1 h2=>GO _ (by omega) (by omega)⟩
   . have:adsOf (P ++ ⟨a,k2,true⟩ :: Q2)=adsOf P ++ adsOf Q:=by
       rw [adsOf_app,<- R.ads];show adsOf P ++ adsOf ([⟨a,k2,true⟩] ++ Q2)=_;rw [adsOf_app];rfl
     rw [this,hads0];simp only [List.mem_append,List.mem_cons];constructor
     . rintro (h | h)
       . exact ⟨.inl h,fun e=>nP (e ▸ h)⟩
       exact ⟨.inr (.inr h),fun e=>nQ (e ▸ h)⟩
     rintro ⟨h | h | h,hne⟩
     . exact .inl h
     . exact absurd h hne
     exact .inr h
   have hcase:t ∈ P \/ t=⟨a,k,false⟩ \/ t ∈ Q:=by simpa using ht
   rcases hcase with ht' | rfl | ht'
   . have hm:=mP t ht';refine GO _ (by omega) ?_
     rcases linkP with e | ⟨v',hv',hvf',e⟩
     . omega
     have h1':=mP v' hv'
     rcases lP.sep ht' hv' with e2 | e2
     . rw [e2,hvf'] at hf
       cases hf
     omega
   . exact absurd rfl hne
   have hm:=mQ t ht';have h3:t ∈ Q2:=by
    have:t.a ∈ adsOf Q2:=by
     rw [R.ads];exact mem_adsOf.2 ⟨t,ht',hf,rfl⟩
    obtain ⟨u,hu,huf,e⟩:=mem_adsOf.1 this;have:=lQ.same (R.sub u hu) ht' e;rw [<- this];exact hu
   have:=mQ2 t h3;exact GO _ (by omega) (by omega)
  rcases last_split P 0 16 with ⟨c1,c2,c3⟩ | ⟨P1,v,P2,hP,c1,c2,c3,c4⟩
  . refine FAR (ltF_none c1) trivial ?_;rw [hbf] at c2;rw [if_neg (by omega)]
  rw [hbf] at c3;rw [hlk] at c4;have hv:=(pP v (by rw [hP];simp)).free c1;have hm:=mP v (by rw [hP];simp);have hx:ow W2 (before+1)=v.k:=by rw [c3,outs _ (by omega),<- hout _ (by omega)];exact hv.2.1
  have hrc:rc W2 (before+1)=some (v.k:Int):=by
   rw [rc_ow (by omega) (by rw [hx];omega) (by rw [hx];omega),hx]
  by_cases h2:P2=[]
  . subst h2;subst hP;obtain ⟨lP1,lv,lv2⟩:=lP.parts;have hva:v.a+v.k=a:=lv2;obtain ⟨W3,e3,q3,g3⟩:=wr_ow (W:=W2) (i:=before+1) ((v.k:Int)+k2) (by omega);obtain ⟨W4,e4,q4,g4⟩:=wr_ow (W:=W3) (i:=before+2) nx (by omega);have G:∀ j,ow W4 j=if j=v.a+2 then nx else if j=v.a+1 then (v.k:Int)+k2 else ow W2 j:=fun j=>by rw [g4,g3,c3]
    have GO:∀ j,(j < v.a \/ a+k2<=j)->ow W4 j=ow S.words j:=fun j h1=>by
     rw [G,if_neg (by omega),if_neg (by omega)];exact outs j (by omega)
    have mP1:∀ t ∈ P1,17<=t.a/\t.a+t.k<=v.a/\3<=t.k:=fun t ht=>lP1.mem ht
    obtain ⟨t1,t2,t3⟩:=Sep.app.1 s1;have hl1:ltF P1=false:=by
     cases hq:ltF P1 with
     | false=>rfl
     | true=>exact absurd ⟨hq,c1⟩ t3
    have k1':Links (ow W1) 16 P1 v.a:=by
     have:=(Links.app.1 k1).1;unfold headF at this;rw [c1] at this
     simpa using this
    have hl2:=lastL_lt lP1 (l:=16) (by omega);have k1'':ow W1 (lastL 16 P1)=v.a:=by
     have:=(Links.app.1 k1).2;unfold Links at this;rw [c1] at this;simp only [if_true] at this;exact this.1
    refine ⟨{ S with words:=W4,taken:=S.taken.erase a },P1 ++ ⟨v.a,v.k+k2,true⟩ :: Q2, ?_,rfl,rfl,by show W4.length=_;omega,rfl,⟨Lay.app.2 ⟨v.a,lP1,rfl,by show 3<=v.k+k2;omega, ?_⟩,Links.app.2 ⟨?_, ?_⟩,Sep.app.2 ⟨t1,Sep.cons.2 ⟨by rw [R.hd];simp,R.sep⟩,by rw [hl1];simp⟩,fun t ht=>?_⟩,fun b=>?_,fun j hj=>GO j (by omega),fun t ht hf hne j h1 h2=>?_⟩
    . rw [hfree,if_pos (by omega),hrc];simp only [Option.bind_eq_bind,Option.bind_some];rw [if_pos (by simp;omega),e3];simp only [Option.bind_some,e4];rfl
    . show Lay (v.a+(v.k+k2)) Q2 _;rw [show v.a+(v.k+k2)=a+k2 by omega];exact R.lay.cast q1
    . show Links (ow W4) 16 P1 (v.a:Int);exact k1'.congr (by rw [GO _ (by omega),hout _ (by omega)]) fun t ht _=>by
       have:=mP1 t ht;rw [GO _ (by omega),hout _ (by omega)]
    . refine ⟨?_,R.links _ _ ?_ fun t ht _=>?_⟩
      . show ow W4 (lastL 16 P1)=(v.a:Int);rw [GO _ (by omega),<- hout _ (by omega)];exact k1''
      . show ow W4 (v.a+2)=nx;rw [G,if_pos rfl]
      have:=mQ2 t ht;rw [GO _ (by omega),hout _ (by omega)]
    . have hcase:t ∈ P1 \/ t=⟨v.a,v.k+k2,true⟩ \/ t ∈ Q2:=by simpa using ht
      rcases hcase with ht | rfl | ht
      . have hm:=mP1 t ht;exact (h.ok t (by simp [ht])).congr (GO _ (by omega)) fun hf=>⟨GO _ (by omega),fun j h1 h2=>GO _ (by omega)⟩
      . unfold PartOk;simp only [if_true];have zz:∀ j,v.a+3<=j \/ j=v.a->j < a+k2->ow W2 j=0:=fun j h1 h2=>by
         by_cases hj:j < a
         . rw [outs _ (by omega),<- hout _ (by omega)]
           rcases h1 with h1 | h1
           . exact hv.2.2 j h1 (by omega)
           rw [h1];exact hv.1
         exact zer j (by omega) h2
        refine ⟨?_, ?_,fun j h1 h2=>?_⟩
        . rw [G,if_neg (by omega),if_neg (by omega)];exact zz _ (.inr rfl) (by omega)
        . rw [G,if_neg (by omega),if_pos rfl]
          push_cast
          rfl
        rw [G,if_neg (by omega),if_neg (by omega)];exact zz _ (.inl h1) (by omega)
      have hm:=mQ2 t ht;exact (h.ok t (by simp [R.sub t ht])).congr (GO _ (by omega)) fun hf=>⟨GO _ (by omega),fun j h1 h2=>GO _ (by omega)⟩
    . have e1:adsOf (P1 ++ ⟨v.a,v.k+k2,true⟩ :: Q2)=adsOf P1 ++ adsOf Q:=by
        rw [adsOf_app,<- R.ads];show adsOf P1 ++ adsOf ([⟨v.a,v.k+k2,true⟩] ++ Q2)=_;rw [adsOf_app];rfl
      have e2:adsOf (P1 ++ [v])=adsOf P1:=by
       rw [adsOf_app];simp [adsOf,c1]
      rw [e2] at nP;rw [e1,hads0,e2];simp only [List.mem_append,List.mem_cons];constructor
      . rintro (h | h)
        . exact ⟨.inl h,fun e=>nP (e ▸ h)⟩
        exact ⟨.inr (.inr h),fun e=>nQ (e ▸ h)⟩
      rintro ⟨h | h | h,hne⟩
      . exact .inl h
      . exact absurd h hne
      exact .inr h
    have hcase:t ∈ P1 \/ t=v \/ t=⟨a,k,false⟩ \/ t ∈ Q:=by simpa using ht
    rcases hcase with ht' | rfl | rfl | ht'
    . have hm:=mP1 t ht';exact GO _ (by omega)
    . rw [c1] at hf
      cases hf
    . exact absurd rfl hne
    have hm:=mQ t ht';have h3:t ∈ Q2:=by
     have:t.a ∈ adsOf Q2:=by
      rw [R.ads];exact mem_adsOf.2 ⟨t,ht',hf,rfl⟩
     obtain ⟨u,hu,huf,e⟩:=mem_adsOf.1 this;have:=lQ.same (R.sub u hu) ht' e;rw [<- this];exact hu
    have:=mQ2 t h3;exact GO _ (by omega)
  refine FAR ?_ trivial ?_
  . rw [hP,show P1 ++ v :: P2=(P1 ++ [v]) ++ P2 by simp,ltF_app h2];exact ltF_none c2
  rw [if_pos (by omega),hrc];simp only [Option.bind_eq_bind,Option.bind_some];have:v.a+v.k < a:=by
   subst hP;obtain ⟨lP1,lv,lv2⟩:=lP.parts
   cases P2 with
   | nil=>exact absurd rfl h2
   | cons p P2=>
    obtain ⟨p1,p2,p3⟩:=lv2;have:=p3.le;omega
  rw [dF]
end Hp
namespace Hp
theorem up_nodup (h:T.Pairwise (· < ·)):T.Nodup:=h.imp fun h=>Nat.ne_of_lt h
theorem frees_spec (D:List Nat):∀ (S:Hs) (L:List Tl),Fr S.sizes->S.words.length<=100000->Parts (ow S.words) S.sizes L S.words.length->(∀ a ∈ D,a ∈ adsOf L)->D.Nodup->S.taken.Nodup ->
    ∃ S' L',Hs.frees S D=some S'/\S'.sizes=S.sizes/\S'.order=S.order/\S'.words.length=S.words.length/\S'.taken=S.taken.filter (fun b=>!D.contains b)/\Parts (ow S'.words) S.sizes L' S.words.length/\(∀ b,b ∈ adsOf L' ↔ b ∈ adsOf L/\b ∉ D) /\
     (∀ j,j < 16->ow S'.words j=ow S.words j) /\ ∀ t ∈ L,t.fr=false->t.a ∉ D -> ∀ j,t.a<=j->j < t.a+t.k->ow S'.words j=ow S.words j:=by
  induction D with
  | nil=>
   intro S L _ _ hp _ _ _;exact ⟨S,L,rfl,rfl,rfl,rfl,(List.filter_eq_self.2 (by simp)).symm,hp,by simp,fun _ _=>rfl,fun _ _ _ _ _ _ _=>rfl⟩
  | cons a D ih=>
   intro S L hz hn hp hD hd ht;obtain ⟨d1,d2⟩:=List.nodup_cons.1 hd;obtain ⟨t,htL,htf,hta⟩:=mem_adsOf.1 (hD a (by simp));obtain ⟨P,Q,hPQ⟩:=List.append_of_mem htL;have et:t=⟨a,t.k,false⟩:=by
    cases t
    simp only at htf hta;subst htf hta;rfl
   rw [et] at hPQ;generalize t.k=k at *;subst hPQ;obtain ⟨S1,L1,e1,F⟩:=free_spec hz hn hp;obtain ⟨S2,L2,e2,g1,g2,g3,g4,g5,g6,g7,g8⟩:=ih S1 L1 (by rw [F.sizes];exact hz) (by rw [F.len];exact hn) (by rw [F.sizes,F.len];exact F.parts) (fun b hb=>(F.ads b).2 ⟨hD b (by simp [hb]),fun e=>d1 (e ▸ hb)⟩) d2 (by rw [F.taken];exact ht.erase a);refine ⟨S2,L2, ?_,g1.trans F.sizes,g2.trans F.order,g3.trans F.len, ?_, ?_,fun b=>?_,fun j hj=>(g7 j hj).trans (F.low j hj),fun u hu huf hne j h1 h2=>?_⟩
   . unfold Hs.frees;rw [e1];exact e2
   . rw [g4,F.taken,List.Nodup.erase_eq_filter ht,List.filter_filter];apply List.filter_congr;intro b _;rw [Bool.eq_iff_iff];simp;constructor
     . rintro ⟨h1,h2⟩;exact ⟨h2,h1⟩
     rintro ⟨h1,h2⟩;exact ⟨h2,h1⟩
   . rw [F.sizes,F.len] at g5;exact g5
   . rw [g6,F.ads];simp only [List.mem_cons,not_or];constructor
     . rintro ⟨⟨h1,h2⟩,h3⟩;exact ⟨h1,h2,h3⟩
     rintro ⟨h1,h2,h3⟩;exact ⟨⟨h1,h2⟩,h3⟩
   have hne1:u.a ≠ a:=fun e=>hne (by simp [e])
   have hne2:u.a ∉ D:=fun h=>hne (by simp [h])
   have k1:=F.keep u hu huf hne1;have hx:u.a ∈ adsOf L1:=(F.ads _).2 ⟨mem_adsOf.2 ⟨u,hu,huf,rfl⟩,hne1⟩;obtain ⟨v,hv,hvf,hva⟩:=mem_adsOf.1 hx;have hm:=hp.lay.mem hu;have ek:v.k=u.k:=by
    rw [((F.parts.ok v hv).cell hvf).2,((hp.ok u hu).cell huf).2,hva,k1 _ (Nat.le_refl _) (by omega)]
   rw [g8 v hv hvf (by rw [hva];exact hne2) j (by omega) (by omega),k1 j h1 h2]
theorem widths_filter {f:Nat->Int} {z:List Int} (p:Nat->Bool):∀ T:List Nat,widths f z (T.filter p)<=widths f z T
 | []=>Nat.le_refl _
 | a :: r=>by
  have:=widths_filter (f:=f) (z:=z) p r;rw [List.filter_cons]
  split
  . unfold widths;omega
  rw [show widths f z (a :: r)=wz z (f a)+widths f z r from rfl];omega
theorem cnt_filter {f:Nat->Int} {z:List Int} (a:Nat) (p:Nat->Bool):∀ T:List Nat,cnt f z a T=cnt f z a (T.filter p)+cnt f z a (T.filter fun b=>!p b)
 | []=>rfl
 | b :: r=>by
  have:=cnt_filter (f:=f) (z:=z) a p r;rw [List.filter_cons,List.filter_cons]
  cases hb:p b
  . simp only [Bool.false_eq_true,if_false,Bool.not_false,if_true];rw [show cnt f z a (b :: r)=(kz f z b).count (a:Int)+cnt f z a r from rfl,show ∀ l,cnt f z a (b :: l)=(kz f z b).count (a:Int)+cnt f z a l from fun _=>rfl];omega
  simp only [Bool.not_true,Bool.false_eq_true,if_false,if_true];rw [show cnt f z a (b :: r)=(kz f z b).count (a:Int)+cnt f z a r from rfl,show ∀ l,cnt f z a (b :: l)=(kz f z b).count (a:Int)+cnt f z a l from fun _=>rfl];omega
theorem Cells.sub {f:Nat->Int} {Lv Lv':List Nat} (h:Cells f z o Lv) (hs:∀ a ∈ Lv',a ∈ Lv) (hk:∀ a ∈ Lv',∀ b ∈ Lv,(b:Int) ∈ kz f z a->b ∈ Lv'):Cells f z o Lv' where
 tags a ha:=h.tags a (hs a ha)
 ends a ha:=h.ends a (hs a ha)
 kids a ha x hx:=by
  obtain ⟨b,hb,rfl,hr⟩:=h.kids a (hs a ha) x hx;exact ⟨b,hk a ha b hb hx,rfl,hr⟩
 flat a ha:=h.flat a (hs a ha)
 one a ha b hb:=h.one a (hs a ha) b (hs b hb)
theorem Wf.live_ {ch:Nat->List Nat} (h:Wf S B L ch):∃ T,S.live=some T/\T.Pairwise (· < ·)/\(∀ a ∈ T,a ∈ S.taken)/\(∀ a ∈ S.taken,0 < ow S.words (a+2)->a ∈ T)/\(∀ a ∈ T,∀ b:Nat,(b:Int) ∈ kz (ow S.words) S.sizes a->b ∈ T) /\
    ∀ X:List Nat,(∀ a ∈ S.taken,0 < ow S.words (a+2)->a ∈ X)->(∀ a ∈ X,∀ b:Nat,(b:Int) ∈ kz (ow S.words) S.sizes a->b ∈ X) -> ∀ a ∈ T,a ∈ X:=by
  obtain ⟨T,hT⟩:=live_total h;obtain ⟨R,hR,h1,h2,h3⟩:=Hs.live_spec hT;have hr:=Hs.held_spec hR;have root:∀ x,x ∈ R ↔ x ∈ S.taken/\0 < ow S.words (x+2):=fun x=>by
   rw [hr x];constructor
   . rintro ⟨k1,v,k2,k3⟩;refine ⟨k1, ?_⟩;rw [(ow_rd k2).1];exact k3
   rintro ⟨k1,k2⟩;exact ⟨k1,_,rd_ow (by have:=h.part k1;omega),k2⟩
  have kid:∀ a ∈ S.taken,∀ b,S.Kid a b ↔ (b:Int) ∈ kz (ow S.words) S.sizes a:=fun a ha b=>by
   obtain ⟨r,q1,q2,q3⟩:=adrs_of (l:=kz (ow S.words) S.sizes a) fun x hx=>by
    obtain ⟨b,_,e,_⟩:=h.cells.kids a ha x hx;exact ⟨b,e⟩
   constructor
   . rintro ⟨ks,l,e1,e2,hb⟩;rw [h.kids_ ha] at e1
     cases e1
     rw [q1] at e2
     cases e2
     exact (q3 b).1 hb
   intro hb;exact ⟨_,r,h.kids_ ha,q1,(q3 b).2 hb⟩
  have inT:∀ a,S.Reach R a->a ∈ S.taken:=fun a ha=>by
   induction ha with
   | root hx=>exact ((root _).1 hx).1
   | step _ hk ih=>
    obtain ⟨b,hb,e,_⟩:=h.cells.kids _ ih _ ((kid _ ih _).1 hk);rw [show _=b from Int.ofNat.inj e];exact hb
  refine ⟨T,hT,h1,fun a ha=>inT a ((h2 a).1 ha),fun a ha hp=>(h2 a).2 (.root ((root a).2 ⟨ha,hp⟩)),fun a ha b hb=>?_,fun X x1 x2 a ha=>?_⟩
  . have ha':=(h2 a).1 ha;exact (h2 b).2 (.step ha' ((kid a (inT a ha') b).2 hb))
  have ha':=(h2 a).1 ha;clear ha
  induction ha' with
  | root hx=>exact x1 _ ((root _).1 hx).1 ((root _).1 hx).2
  | step hk0 hk ih=>exact x2 _ ih _ ((kid _ (inT _ hk0) _).1 hk)
structure Coll (S S':Hs) (T:List Nat):Prop where
 sizes:S'.sizes=S.sizes
 order:S'.order=S.order
 len:S'.words.length=S.words.length
 taken:S'.taken=S.taken.filter T.contains
 old:Same (ow S.words) (ow S'.words) S.sizes S'.taken
 hold:∀ b ∈ S'.taken,ow S'.words (b+2)=ow S.words (b+2)
set_option maxHeartbeats 1000000 in
theorem collect_wf {ch:Nat->List Nat} (h:Wf S B L ch) (hT:S.live=some T) :
    ∃ S' L',S.collect=some ((S.taken.filter fun a=>!T.contains a).length,S')/\Coll S S' T/\Wf S' B L' (fun c=>(ch c).filter T.contains):=by
  obtain ⟨T',hT',t1,t2,t3,t4,_⟩:=h.live_;rw [hT] at hT'
  cases hT'
  have hlo:=h.lo;have hhi:=h.hi;have hm16:∀ c,c < 16 -> ∀ a ∈ ch c,a ∈ S.taken:=fun c hc a ha=>((h.chains.mem c hc a).1 ha).1
  obtain ⟨W1,u1,u2,u3,u4⟩:=unlinks_spec T S.fuel (fun c=>if c < 16 then ch c else []) (fun c c' a ha ha'=>by
   split at ha
   . rename_i hc
     split at ha'
     . rename_i hc';exact ((h.chains.mem c hc a).1 ha).2.symm.trans ((h.chains.mem c' hc' a).1 ha').2
     cases ha'
   . cases ha) (fun c hc=>by simp only [if_pos hc];exact h.chains.nodup c hc) (List.range 16) S.words List.nodup_range (by omega) (fun c hc=>by
   have hc:c < 16:=by simpa using hc
   simp only [if_pos hc];refine ⟨hc,h.chains.path c hc, ?_,fun a ha=>?_⟩
   . have:=nodup_len (h.chains.nodup c hc) (hm16 c hc);have:=h.few;unfold Hs.fuel;omega
   . have:=h.part (hm16 c hc a ha);omega)
  have u4':∀ j,16<=j->(∀ a ∈ S.taken,j ≠ a+3)->ow W1 j=ow S.words j:=fun j hj hn=>u4 j fun c hc=>by
   have hc:c < 16:=by simpa using hc
   simp only [if_pos hc];exact ⟨by omega,fun a ha=>hn a (hm16 c hc a ha)⟩
  have U:∀ b ∈ S.taken,∀ i,i < wz S.sizes (ow S.words b)->i ≠ 3->ow W1 (b+i)=ow S.words (b+i):=fun b hb i hi h3=>by
   have:=h.part hb;exact u4' _ (by omega) fun a ha=>h.ne hb ha hi (by have:=h.part ha;omega) (.inr h3)
  have US:Same (ow S.words) (ow W1) S.sizes S.taken:=fun b hb=>by
   have:=h.part hb;refine ⟨by simpa using U b hb 0 (by omega) (by omega),fun i hi=>?_⟩;have:=U b hb (4+i) (by omega) (by omega);rw [<- Nat.add_assoc] at this;exact this
  generalize hD:S.taken.filter (fun a=>!T.contains a)=D;have mD:∀ a,a ∈ D ↔ a ∈ S.taken/\a ∉ T:=fun a=>by rw [<- hD];simp
  obtain ⟨W2,v1,v2,v3,v4⟩:=unuse_spec h D W1 (fun a ha=>((mD a).1 ha).1) u2 US (fun b hb=>by
   have h1:=h.uses_le hb;have h2:=widths_filter (f:=ow S.words) (z:=S.sizes) (fun a=>!T.contains a) S.taken;rw [hD] at h2;have h3:=h.widths_;rw [U b hb 1 (by have:=h.part hb;omega) (by omega)];omega)
  have V:∀ b ∈ S.taken,∀ i,i < wz S.sizes (ow S.words b)->i ≠ 1->ow W2 (b+i)=ow W1 (b+i):=fun b hb i hi h1=>v3 _ fun c hc=>h.ne hb hc hi (by have:=h.part hc;omega) (.inr h1)
  have FRE:∀ t ∈ L,t.fr=true -> ∀ j,t.a<=j->j < t.a+t.k->ow W2 j=ow S.words j:=fun t ht hf j h1 h2=>by
   have hm:=h.parts.lay.mem ht;rw [v3 j fun b hb=>?_,u4' j (by omega) fun b hb=>?_]
   . have:=h.apart hb ht hf;have:=h.part hb;omega
   have:=h.apart hb ht hf;have:=h.part hb;omega
  have P2:Parts (ow W2) S.sizes L S.words.length:=by
   refine h.parts.congr ?_ (fun t ht=>?_) FRE
   . rw [v3 _ fun b hb=>by have:=h.part hb;omega,u4' _ (by omega) fun b hb=>by have:=h.part hb;omega]
   cases hf:t.fr with
   | true=>exact FRE t ht hf _ (Nat.le_refl _) (by have:=h.parts.lay.mem ht;omega)
   | false=>
    have hb:t.a ∈ S.taken:=by rw [h.taken];exact mem_adsOf.2 ⟨t,ht,hf,rfl⟩
    have hp:=h.part hb;have e1:=V t.a hb 0 (by omega) (by omega);have e2:=U t.a hb 0 (by omega) (by omega);simp only [Nat.add_zero] at e1 e2;rw [e1,e2]
  obtain ⟨S3,L3,w1,w2,w3,w4,w5,w6,w7,w8,w9⟩:=frees_spec D { S with words:=W2 } L h.fr.toFr (by show W2.length<=_;omega) (by show Parts (ow W2) S.sizes L W2.length;rw [v2];exact P2) (fun a ha=>by rw [<- h.taken];exact ((mD a).1 ha).1) (by rw [<- hD];exact (up_nodup h.up).filter _) (up_nodup h.up);have w2:S3.sizes=S.sizes:=w2;have w3:S3.order=S.order:=w3;have w4:S3.words.length=S.words.length:=w4.trans v2;have w5:S3.taken=S.taken.filter (fun b=>!D.contains b):=w5;have w8:∀ j,j < 16->ow S3.words j=ow W2 j:=w8
  have w9:∀ t ∈ L,t.fr=false->t.a ∉ D -> ∀ j,t.a<=j->j < t.a+t.k->ow S3.words j=ow W2 j:=w9
  have w6:Parts (ow S3.words) S.sizes L3 S.words.length:=by
   have:Parts (ow S3.words) S.sizes L3 W2.length:=w6
   rwa [v2] at this
  have eT:S3.taken=S.taken.filter T.contains:=by
   rw [w5];apply List.filter_congr;intro b hb;rw [Bool.eq_iff_iff];simp [mD,hb]
  have m3:∀ b,b ∈ S3.taken ↔ b ∈ S.taken/\b ∈ T:=fun b=>by rw [eT];simp
  have K:∀ b ∈ S3.taken,∀ i,i < wz S.sizes (ow S.words b)->ow S3.words (b+i)=ow W2 (b+i):=fun b hb i hi=>by
   obtain ⟨h1,h2⟩:=(m3 b).1 hb;exact w9 _ (h.part h1).1 rfl (fun hm=>((mD b).1 hm).2 h2) _ (by simp) (by simpa using hi)
  have X:∀ b ∈ S3.taken,∀ i,i < wz S.sizes (ow S.words b)->i ≠ 1->i ≠ 3->ow S3.words (b+i)=ow S.words (b+i):=fun b hb i hi h1 h3=>by
   have hb':=((m3 b).1 hb).1;rw [K b hb i hi,V b hb' i hi h1,U b hb' i hi h3]
  have SM:Same (ow S.words) (ow S3.words) S.sizes S3.taken:=fun b hb=>by
   have:=h.part ((m3 b).1 hb).1;refine ⟨by simpa using X b hb 0 (by omega) (by omega) (by omega),fun i hi=>?_⟩;have:=X b hb (4+i) (by omega) (by omega) (by omega);rw [<- Nat.add_assoc] at this;exact this
  have HO:∀ b ∈ S3.taken,ow S3.words (b+2)=ow S.words (b+2):=fun b hb=>X b hb 2 (by have:=h.part ((m3 b).1 hb).1;omega) (by omega) (by omega)
  refine ⟨S3,L3, ?_,⟨w2,w3,w4,eT,SM,HO⟩, ?_⟩
  . unfold Hs.collect;rw [hT];have hu:S.unlink T=some { S with words:=W1 }:=by
     unfold Hs.unlink;rw [u1];rfl
    simp only [Option.bind_eq_bind,Option.bind_some,hu];rw [hD,v1];simp only [Option.bind_some,w1]
  exact
  { fr:=by rw [w2,w3];exact h.fr
    lo:=by rw [w4];exact h.lo
    hi:=by rw [w4];exact h.hi
    bd:=h.bd
    parts:=by rw [w2,w4];exact w6
    taken:=by
     refine up_ext (by rw [eT];exact h.up.filter _) (adsOf_up w6.lay) fun b=>?_
     rw [m3,w7,<- h.taken,mD];constructor
     . rintro ⟨h1,h2⟩;exact ⟨h1,fun h3=>h3.2 h2⟩
     rintro ⟨h1,h2⟩;refine ⟨h1, ?_⟩;apply Classical.byContradiction;intro h3;exact h2 ⟨h1,h3⟩
    chains:=by
     rw [w2];refine ⟨fun c hc=>?_,fun c hc=>(h.chains.nodup c hc).filter _,fun c hc a=>?_⟩
     . have hp:=u3 c (by simpa using hc);simp only [if_pos hc] at hp;refine hp.congr ?_ fun a ha=>?_
       . rw [w8 c hc,v3 c fun b hb=>by have:=h.part hb;omega]
       obtain ⟨ha1,ha2⟩:=List.mem_filter.1 ha;have ha3:=hm16 c hc a ha1;have ha4:a ∈ S3.taken:=(m3 a).2 ⟨ha3,by simpa using ha2⟩;have:=h.part ha3;rw [K a ha4 3 (by omega),V a ha3 3 (by omega) (by omega)]
     rw [List.mem_filter,h.chains.mem c hc a,m3];constructor
     . rintro ⟨⟨h1,h2⟩,h3⟩;have hm:a ∈ S3.taken:=(m3 a).2 ⟨h1,by simpa using h3⟩;refine ⟨⟨h1,by simpa using h3⟩, ?_⟩;rw [(SM a hm).1,SM.fz_ hm];exact h2
     rintro ⟨⟨h1,h3⟩,h2⟩;have hm:a ∈ S3.taken:=(m3 a).2 ⟨h1,h3⟩;rw [(SM a hm).1,SM.fz_ hm] at h2;exact ⟨⟨h1,h2⟩,by simpa using h3⟩
    cells:=by
     rw [w2,w3];exact SM.cells h.fr.toFr (h.cells.sub (fun a ha=>((m3 a).1 ha).1) fun a ha b hb hk=>(m3 b).2 ⟨hb,t4 a ((m3 a).1 ha).2 b hk⟩)
    uses:=fun b hb=>by
     have hb':=((m3 b).1 hb).1;rw [w2,K b hb 1 (by have:=h.part hb';omega),v4 b hb',U b hb' 1 (by have:=h.part hb';omega) (by omega),h.uses b hb',SM.cnt_ b fun x hx=>hx,eT];have:=cnt_filter (f:=ow S.words) (z:=S.sizes) b T.contains S.taken;rw [hD] at this;omega
    holds:=fun b hb=>by
     rw [HO b hb];exact h.holds b ((m3 b).1 hb).1 }
end Hp
namespace Hp
def place (f:Nat->Int) (z:List Int):Nat->List Nat->Nat->Nat
 | _,[],_=>0
 | s,a :: r,b=>if b=a then s else place f z (s+wz z (f a)) r b
theorem place_in {f:Nat->Int} {z:List Int}:∀ {T:List Nat} {s b:Nat},b ∈ T->s<=place f z s T b/\place f z s T b+wz z (f b)<=s+widths f z T
 | [],_,_,h=>by cases h
 | a :: r,s,b,h=>by
  unfold place widths
  by_cases e:b=a
  . subst e;rw [if_pos rfl];omega
  rw [if_neg e];have hr:b ∈ r:=by
   rcases List.mem_cons.1 h with h | h
   . exact absurd h e
   exact h
  have:=place_in (f:=f) (z:=z) (s:=s+wz z (f a)) hr;omega
theorem place_up {f:Nat->Int} {z:List Int}:∀ {T:List Nat} {s a b:Nat},T.Pairwise (· < ·)->a ∈ T->b ∈ T->a < b->place f z s T a+wz z (f a)<=place f z s T b
 | [],_,_,_,_,h,_,_=>by cases h
 | c :: r,s,a,b,hp,ha,hb,hab=>by
  obtain ⟨h1,h2⟩:=List.pairwise_cons.1 hp;have hbc:b ≠ c:=by
   rintro rfl
   rcases List.mem_cons.1 ha with e | e
   . omega
   have:=h1 a e;omega
  have hbr:b ∈ r:=by
   rcases List.mem_cons.1 hb with e | e
   . exact absurd e hbc
   exact e
  by_cases e:a=c
  . subst e;rw [show place f z s (a :: r) a=s by simp [place],show place f z s (a :: r) b=place f z (s+wz z (f a)) r b by simp [place,hbc]];exact (place_in hbr).1
  have har:a ∈ r:=by
   rcases List.mem_cons.1 ha with e' | e'
   . exact absurd e' e
   exact e'
  rw [show place f z s (c :: r) a=place f z (s+wz z (f c)) r a by simp [place,e],show place f z s (c :: r) b=place f z (s+wz z (f c)) r b by simp [place,hbc]];exact place_up h2 har hbr hab
theorem moves_spec {S:Hs} {B:Nat} {L:List Tl} {ch:Nat->List Nat} (h:Wf S B L ch):∀ (r:List Nat) (W:List Int) (next:Nat) (M:List (Nat × Int)),r.Pairwise (· < ·)->(∀ a ∈ r,a ∈ S.taken)->KeysUp M->next+widths (ow S.words) S.sizes r<=W.length ->
    ∃ W' M',Hs.moves S r W next M=some (W',next+widths (ow S.words) S.sizes r,M')/\W'.length=W.length/\KeysUp M'/\(∀ b,getI b M'=if b ∈ r then some ((place (ow S.words) S.sizes next r b:Nat):Int) else getI b M) /\
     (∀ b ∈ r,∀ i,i < wz S.sizes (ow S.words b)->ow W' (place (ow S.words) S.sizes next r b+i)=ow S.words (b+i)) /\ ∀ j,(j < next \/ next+widths (ow S.words) S.sizes r<=j)->ow W' j=ow W j
  | [],W,next,M,_,_,hM,_=>⟨W,M,by simp [Hs.moves,widths],rfl,hM,by simp,by simp,fun _ _=>rfl⟩
  | a :: r,W,next,M,hp,hr,hM,hl=>by
   obtain ⟨p1,p2⟩:=List.pairwise_cons.1 hp;have ha:=hr a (by simp);have pa:=h.part ha;rw [show widths (ow S.words) S.sizes (a :: r)=wz S.sizes (ow S.words a)+widths (ow S.words) S.sizes r from rfl] at hl ⊢;have hs:=sub_ow (W:=S.words) (i:=a) (n:=wz S.sizes (ow S.words a)) pa.2.2.1;obtain ⟨W1,e1,l1,g1⟩:=lay_ow (W:=W) (l:=cut (ow S.words) a (wz S.sizes (ow S.words a))) (i:=next) (by rw [cut_length];omega);rw [cut_length] at g1;obtain ⟨W',M',v1,v2,v3,v4,v5,v6⟩:=moves_spec h r W1 (next+wz S.sizes (ow S.words a)) (putI a (next:Int) M) p2 (fun b hb=>hr b (by simp [hb])) (keysUp_put hM) (by omega);have hna:a ∉ r:=fun hm=>by have:=p1 a hm;omega
   refine ⟨W',M', ?_,v2.trans l1,v3,fun b=>?_,fun b hb i hi=>?_,fun j hj=>?_⟩
   . unfold Hs.moves;rw [h.wide_ ha];simp only [Option.bind_eq_bind,Option.bind_some,hs,e1];rw [v1,Nat.add_assoc]
   . rw [v4,getI_put hM]
     by_cases e:b=a
     . subst e;rw [if_neg hna,if_pos rfl,if_pos (by simp)];simp [place]
     rw [if_neg e]
     by_cases hb:b ∈ r
     . rw [if_pos hb,if_pos (by simp [hb])];simp [place,e]
     rw [if_neg hb,if_neg (by simp [e,hb])]
   . by_cases e:b=a
     . subst e;rw [show place (ow S.words) S.sizes next (b :: r) b=next by simp [place],v6 _ (.inl (by omega)),g1,if_pos (by omega)];have:=cut_get (f:=ow S.words) (i:=b) (n:=wz S.sizes (ow S.words b)) (k:=i) hi;rw [show next+i-next=i by omega,List.getD_eq_getElem?_getD,this];rfl
     have hb':b ∈ r:=by
      rcases List.mem_cons.1 hb with h' | h'
      . exact absurd h' e
      exact h'
     rw [show place (ow S.words) S.sizes next (a :: r) b=place (ow S.words) S.sizes (next+wz S.sizes (ow S.words a)) r b by simp [place,e]];exact v5 b hb' i hi
   rw [v6 j (by omega),g1,if_neg (by omega)]
def to' (m:Nat->Nat) (x:Int):Int:=((m x.toNat:Nat):Int)
def nz (f:Nat->Int) (z:List Int) (m:Nat->Nat) (a:Nat):List Int:=if isEnd (f a) then fz f z a else (fz f z a).map (to' m)
theorem rekid_spec (hz:Fr S.sizes) {tt K:Nat} (hot:okTag S.sizes t=true) (hte:isEnd t=false) (hK:wz S.sizes t=4+K) (m:Nat->Nat) (n:Nat):∀ (j:Nat) (W:List Int),j+n=K->tt+4+K<=W.length->ow W tt=t ->
    (∀ i,j<=i->i < K -> ∃ k:Nat,ow W (tt+4+i)=(k:Int)/\getI k M=some ((m k:Nat):Int)) ->
    ∃ W',Hs.rekid S M tt n j W=some W'/\W'.length=W.length /\ ∀ x,ow W' x=if tt+4+j<=x/\x < tt+4+K then to' m (ow W x) else ow W x:=by
  induction n with
  | zero=>
   intro j W hj _ _ _;exact ⟨W,rfl,rfl,fun x=>by rw [if_neg (by omega)]⟩
  | succ n ih=>
   intro j W hj hl ht h;obtain ⟨k,e,hk⟩:=h j (Nat.le_refl _) (by omega);obtain ⟨W1,e1,l1,g1⟩:=wr_ow (W:=W) (i:=tt+4+j) ((m k:Nat):Int) (by omega);obtain ⟨W',w1,w2,w3⟩:=ih (j+1) W1 (by omega) (by omega) (by rw [g1,if_neg (by omega)];exact ht) (fun i h1 h2=>by
    rw [g1,if_neg (by omega)];exact h i (by omega) h2)
   refine ⟨W', ?_,w2.trans l1,fun x=>?_⟩
   . unfold Hs.rekid;rw [ra_ow (by omega) e];have hkd:=kids_ow (S:={ S with words:=W }) (a:=tt) hz (by show okTag S.sizes (ow W tt)=true;rw [ht];exact hot) (by show tt+wz S.sizes (ow W tt)<=W.length;rw [ht];omega);have hkl:(kz (ow W) S.sizes tt).length=K:=by
      unfold kz;rw [ht,hte];simp only [Bool.false_eq_true,if_false];rw [fz_length,ht];omega
     simp only [Option.bind_eq_bind,Option.bind_some,hkd,hkl];rw [if_pos (by omega),hk];simp only [Option.getD_some,e1,Option.bind_some];exact w1
   rw [w3,g1]
   by_cases hx:x=tt+4+j
   . subst hx;rw [if_neg (by omega),if_pos rfl,if_pos (by omega),e];simp [to']
   rw [if_neg hx]
   by_cases h2:tt+4+(j+1)<=x/\x < tt+4+K
   . rw [if_pos h2,if_pos (by omega)]
   rw [if_neg h2,if_neg (by omega)]
end Hp
namespace Hp
theorem cut_move {f g:Nat->Int} (h:∀ k,k < n->f (i+k)=g (j+k)):cut f i n=cut g j n:=by
 unfold cut
 apply List.map_congr_left
 intro k hk
 exact h k (by simpa using hk)
theorem insert_last {x:Nat}:∀ {T:List Nat},(∀ y ∈ T,y < x)->Hs.insert x T=T ++ [x]
 | [],_=>rfl
 | y :: r,h=>by
  have:=h y (by simp);unfold Hs.insert;rw [if_neg (by omega),if_neg (by omega),insert_last fun z hz=>h z (by simp [hz])];rfl
section
variable {S:Hs} {B:Nat} {L:List Tl} {ch:Nat->List Nat}
structure Mv (S:Hs) (m:Nat->Nat) (next:Nat) (d r:List Nat) (W:List Int) (cc:Nat->List Nat):Prop where
 len:W.length=S.words.length
 raw:∀ b ∈ r,∀ i,i < wz S.sizes (ow S.words b)->ow W (m b+i)=ow S.words (b+i)
 done:∀ b ∈ d,ow W (m b)=ow S.words b/\ow W (m b+1)=ow S.words (b+1)/\ow W (m b+2)=ow S.words (b+2)/\fz (ow W) S.sizes (m b)=nz (ow S.words) S.sizes m b
 path:∀ c,c < 16->Path (ow W) c (cc c)
 nd:∀ c,c < 16->(cc c).Nodup
 mem:∀ c,c < 16 -> ∀ x,x ∈ cc c ↔ ∃ b ∈ d,x=m b/\cz (ow S.words b) (nz (ow S.words) S.sizes m b)=c
 rest:∀ j,j=16 \/ next<=j->ow W j=0
theorem kids_nat (h:Wf S B L ch) (ha:a ∈ S.taken) (he:isEnd (ow S.words a)=false) (hi:i < wz S.sizes (ow S.words a)-4):∃ k ∈ S.taken,ow S.words (a+4+i)=(k:Int):=by
 have hm:ow S.words (a+4+i) ∈ kz (ow S.words) S.sizes a:=by
  unfold kz;rw [he];simp only [Bool.false_eq_true,if_false];exact mem_cut.2 ⟨i,hi,rfl⟩
 obtain ⟨b,hb,e,_⟩:=h.cells.kids a ha _ hm
 exact ⟨b,hb,e⟩
def ccOf (S:Hs) (m:Nat->Nat):List Nat->(Nat->List Nat)->Nat->List Nat
 | [],cc=>cc
 | a :: r,cc=>ccOf S m r (fun c'=>if c'=cz (ow S.words a) (nz (ow S.words) S.sizes m a) then m a :: cc c' else cc c')
set_option maxHeartbeats 1000000 in
theorem rechain_spec (h:Wf S B L ch) {M:List (Nat × Int)} {m:Nat->Nat} {next:Nat} (hnext:next<=S.words.length) (hM:∀ b ∈ S.taken,getI b M=some ((m b:Nat):Int)) (hm1:∀ b ∈ S.taken,17<=m b/\m b+wz S.sizes (ow S.words b)<=next)
    (hm2:∀ a ∈ S.taken,∀ b ∈ S.taken,a < b->m a+wz S.sizes (ow S.words a)<=m b):∀ (r d:List Nat) (W:List Int) (cc:Nat->List Nat),(d ++ r).Pairwise (· < ·)->(∀ b ∈ d ++ r,b ∈ S.taken)->Mv S m next d r W cc ->
    ∃ W',Hs.rechain M { S with words:=W,taken:=d.map m } r=some { S with words:=W',taken:=(d ++ r).map m } /\ Mv S m next (d ++ r) [] W' (ccOf S m r cc)
  | [],d,W,cc,_,_,I=>⟨W,by simp [Hs.rechain],by simpa [ccOf] using I⟩
  | a :: r,d,W,cc,hp,hT,I=>by
   have ha:=hT a (by simp);have pa:=h.part ha;have qa:=hm1 a ha;have hhi:=h.hi;have mne:∀ b ∈ S.taken,b ≠ a->m b+wz S.sizes (ow S.words b)<=m a \/ m a+wz S.sizes (ow S.words a)<=m b:=fun b hb hne=>by
    rcases Nat.lt_or_ge b a with h1 | h1
    . exact .inl (hm2 b hb a ha h1)
    exact .inr (hm2 a ha b hb (by omega))
   have hda:∀ b ∈ d,b < a:=fun b hb=>by
    have:=(List.pairwise_append.1 hp).2.2 b hb a (by simp);exact this
   have hra:∀ b ∈ r,a < b:=fun b hb=>(List.pairwise_cons.1 (List.pairwise_append.1 hp).2.1).1 b hb
   have hdT:∀ b ∈ d,b ∈ S.taken:=fun b hb=>hT b (by simp [hb])
   have hrT:∀ b ∈ r,b ∈ S.taken:=fun b hb=>hT b (by simp [hb])
   have t0:ow W (m a)=ow S.words a:=by simpa using I.raw a (by simp) 0 (by omega)
   have hot:=h.cells.tags a ha;have hlen:=I.len
   -- the kids
   have hkd:Hs.kids { S with words:=W,taken:=Hs.insert (m a) (d.map m) } (m a)=some (kz (ow W) S.sizes (m a)):=kids_ow (S:={ S with words:=W,taken:=Hs.insert (m a) (d.map m) }) h.fr.toFr (by show okTag S.sizes (ow W (m a))=true;rw [t0];exact hot) (by show m a+wz S.sizes (ow W (m a))<=W.length;rw [t0];omega);obtain ⟨W1,e1,l1,g1,f1⟩:∃ W1,Hs.rekid { S with words:=W,taken:=Hs.insert (m a) (d.map m) } M (m a) (kz (ow W) S.sizes (m a)).length 0 W=some W1/\W1.length=W.length/\(∀ x,(x < m a+4 \/ m a+wz S.sizes (ow S.words a)<=x)->ow W1 x=ow W x)/\fz (ow W1) S.sizes (m a)=nz (ow S.words) S.sizes m a:=by
    have raw4:∀ i,i < wz S.sizes (ow S.words a)-4->ow W (m a+4+i)=ow S.words (a+4+i):=fun i hi=>by
     have:=I.raw a (by simp) (4+i) (by omega);rw [<- Nat.add_assoc,<- Nat.add_assoc] at this;exact this
    cases he:isEnd (ow S.words a) with
    | true=>
     have e0:(kz (ow W) S.sizes (m a)).length=0:=by
      unfold kz;rw [t0,he];rfl
     rw [e0];refine ⟨W,rfl,rfl,fun _ _=>rfl, ?_⟩;unfold nz fz;rw [he,t0];simp only [if_true];exact cut_move raw4
    | false=>
     have e0:(kz (ow W) S.sizes (m a)).length=wz S.sizes (ow S.words a)-4:=by
      unfold kz;rw [t0,he];simp only [Bool.false_eq_true,if_false];rw [fz_length,t0]
     rw [e0];obtain ⟨W1,e1,l1,g1⟩:=rekid_spec (S:={ S with words:=W,taken:=Hs.insert (m a) (d.map m) }) h.fr.toFr (M:=M) (tt:=m a) (K:=wz S.sizes (ow S.words a)-4) hot he (by show wz S.sizes _=_;omega) m (wz S.sizes (ow S.words a)-4) 0 W (by omega) (by omega) t0 (fun i _ hi=>by
      obtain ⟨k,hk,e⟩:=kids_nat h ha he hi;exact ⟨k,by rw [raw4 i hi,e],hM k hk⟩)
     refine ⟨W1,e1,l1,fun x hx=>by rw [g1,if_neg (by omega)], ?_⟩;have t1:ow W1 (m a)=ow S.words a:=by rw [g1,if_neg (by omega)];exact t0
     unfold nz;rw [he];simp only [Bool.false_eq_true,if_false];unfold fz;rw [t1];unfold cut;rw [List.map_map];apply List.map_congr_left;intro i hi;have hi:i < wz S.sizes (ow S.words a)-4:=by simpa using hi
     rw [g1,if_pos (by omega),raw4 i hi];rfl
   have t1:ow W1 (m a)=ow S.words a:=by rw [g1 _ (by omega)];exact t0
   have hfd:Hs.fields { S with words:=W1,taken:=Hs.insert (m a) (d.map m) } (m a)=some (nz (ow S.words) S.sizes m a):=by
    rw [<- f1];exact fields_ow (S:={ S with words:=W1,taken:=Hs.insert (m a) (d.map m) }) h.fr.toFr (by show okTag S.sizes (ow W1 (m a))=true;rw [t1];exact hot) (by show m a+wz S.sizes (ow W1 (m a))<=W1.length;rw [t1];omega)
   have hnl:(nz (ow S.words) S.sizes m a).length<=12:=by
    rw [<- f1,fz_length,t1];omega
   have hnb:∀ x ∈ nz (ow S.words) S.sizes m a,-1000000<=x/\x<=1000000:=fun x hx=>by
    unfold nz at hx
    cases he:isEnd (ow S.words a) with
    | true=>
     rw [he] at hx;exact h.fld_le ha x (by simpa using hx)
    | false=>
     rw [he] at hx;simp only [Bool.false_eq_true,if_false,List.mem_map] at hx;obtain ⟨y,hy,rfl⟩:=hx;obtain ⟨i,hi,rfl⟩:=mem_cut.1 hy;obtain ⟨k,hk,e⟩:=kids_nat h ha he hi;rw [e];have:=hm1 k hk;unfold to';rw [Int.toNat_natCast];omega
   have htg:=h.tag_le ha;have hck:=chain_cz (t:=ow S.words a) (l:=nz (ow S.words) S.sizes m a) (by omega) hnb hnl;have hc16:=cz_lt (ow S.words a) (nz (ow S.words) S.sizes m a);generalize hc0:cz (ow S.words a) (nz (ow S.words) S.sizes m a)=c at *;obtain ⟨W2,e2,l2,g2⟩:=wr_ow (W:=W1) (i:=m a+3) (ow W1 c) (by omega);obtain ⟨W3,e3,l3,g3⟩:=wr_ow (W:=W2) (i:=c) ((m a:Nat):Int) (by omega);have G:∀ j,(j < m a \/ m a+wz S.sizes (ow S.words a)<=j)->j ≠ c->ow W3 j=ow W j:=fun j h1 h2=>by
    rw [g3,if_neg h2,g2,if_neg (by omega),g1 j (by omega)]
   have GA:∀ i,i < 3->ow W3 (m a+i)=ow S.words (a+i):=fun i hi=>by
    rw [g3,if_neg (by omega),g2,if_neg (by omega),g1 _ (by omega)];exact I.raw a (by simp) i (by omega)
   have GF:fz (ow W3) S.sizes (m a)=nz (ow S.words) S.sizes m a:=by
    rw [<- f1];have e0:ow W3 (m a)=ow W1 (m a):=by rw [g3,if_neg (by omega),g2,if_neg (by omega)]
    unfold fz;rw [e0];exact cut_congr fun k hk=>by rw [g3,if_neg (by omega),g2,if_neg (by omega)]
   have I':Mv S m next (d ++ [a]) r W3 (fun c'=>if c'=c then m a :: cc c' else cc c'):=by
    refine ⟨by omega,fun b hb i hi=>?_,fun b hb=>?_,fun c' hc'=>?_,fun c' hc'=>?_,fun c' hc' x=>?_,fun j hj=>?_⟩
    . have hb':=hrT b hb;have:=mne b hb' (by have:=hra b hb;omega);have:=hm1 b hb';rw [G _ (by omega) (by omega)];exact I.raw b (by simp [hb]) i hi
    . rcases List.mem_append.1 hb with hb | hb
      . have hb':=hdT b hb;have hs:=mne b hb' (by have:=hda b hb;omega);have:=hm1 b hb';have pb:=h.part hb';obtain ⟨d1,d2,d3,d4⟩:=I.done b hb;have e0:ow W3 (m b)=ow W (m b):=G _ (by omega) (by omega);refine ⟨e0.trans d1,(G _ (by omega) (by omega)).trans d2,(G _ (by omega) (by omega)).trans d3, ?_⟩;rw [<- d4];unfold fz;rw [e0];exact cut_congr fun k hk=>G _ (by rw [d1] at hk;omega) (by omega)
      have:b=a:=by simpa using hb
      subst this;exact ⟨by simpa using GA 0 (by omega),GA 1 (by omega),GA 2 (by omega),GF⟩
    . have h3:∀ x ∈ cc c',ow W3 (x+3)=ow W (x+3):=fun x hx=>by
        obtain ⟨b,hb,rfl,_⟩:=(I.mem c' hc' x).1 hx;have hb':=hdT b hb;have hs:=mne b hb' (by have:=hda b hb;omega);have:=hm1 b hb';have pb:=h.part hb';exact G _ (by omega) (by omega)
      by_cases e:c'=c
      . subst e;simp only [if_true];refine ⟨by rw [g3,if_pos rfl],by omega,(I.path c' hc').move ?_ h3⟩;rw [g3,if_neg (by omega),g2,if_pos rfl,g1 _ (by omega)]
      simp only [if_neg e];exact (I.path c' hc').congr (G _ (by omega) e) h3
    . by_cases e:c'=c
      . subst e;simp only [if_true];refine List.nodup_cons.2 ⟨fun hx=>?_,I.nd c' hc'⟩;obtain ⟨b,hb,e',_⟩:=(I.mem c' hc' _).1 hx;have hb':=hdT b hb;have hs:=mne b hb' (by have:=hda b hb;omega);have pb:=h.part hb';omega
      simp only [if_neg e];exact I.nd c' hc'
    . have hsplit:(∃ b ∈ d ++ [a],x=m b/\cz (ow S.words b) (nz (ow S.words) S.sizes m b)=c') ↔ (∃ b ∈ d,x=m b/\cz (ow S.words b) (nz (ow S.words) S.sizes m b)=c') \/ (x=m a/\c=c'):=by
        constructor
        . rintro ⟨b,hb,h1,h2⟩
          rcases List.mem_append.1 hb with hb | hb
          . exact .inl ⟨b,hb,h1,h2⟩
          have:b=a:=by simpa using hb
          subst this;exact .inr ⟨h1,by rw [<- hc0];exact h2⟩
        rintro (⟨b,hb,h1,h2⟩ | ⟨h1,h2⟩)
        . exact ⟨b,by simp [hb],h1,h2⟩
        exact ⟨a,by simp,h1,by rw [hc0];exact h2⟩
      rw [hsplit,<- I.mem c' hc' x]
      by_cases e:c'=c
      . subst e;simp only [if_true,List.mem_cons,and_true];exact Or.comm
      simp only [if_neg e];constructor
      . exact .inl
      rintro (h1 | ⟨_,h2⟩)
      . exact h1
      exact absurd h2.symm e
    rw [G j (by omega) (by omega)];exact I.rest j hj
   obtain ⟨W',w1,w2⟩:=rechain_spec h hnext hM hm1 hm2 r (d ++ [a]) W3 _ (by simpa using hp) (by simpa using hT) I';refine ⟨W', ?_,by unfold ccOf;rw [hc0];simpa using w2⟩
   have hins:Hs.insert (m a) (d.map m)=(d ++ [a]).map m:=by
    rw [insert_last fun y hy=>?_]
    . simp
    obtain ⟨b,hb,rfl⟩:=List.mem_map.1 hy;have:=hm2 b (hdT b hb) a ha (hda b hb);have:=h.part (hdT b hb);omega
   rw [show d ++ a :: r=(d ++ [a]) ++ r by simp];unfold Hs.rechain;rw [hM a ha];simp only [Option.getD_some,Option.bind_eq_bind];rw [show adr ((m a:Nat):Int)=some (m a) by simp [adr]];simp only [Option.bind_some];rw [if_neg (by omega)];rw [hkd];simp only [Option.bind_some,e1];rw [show Hs.tag { S with words:=W1,taken:=Hs.insert (m a) (d.map m) } (m a)=some (ow S.words a) by rw [tag_ow (by show m a < W1.length;omega)];exact congrArg some t1,hfd];simp only [Option.bind_some,hck];rw [rd_ow (by omega:c < W1.length)];simp only [Option.bind_some,e2,e3];rw [hins];exact w1
end
end Hp
namespace Hp
theorem lay_cells {f:Nat->Int} {z:List Int}:∀ {T:List Nat} {s:Nat},T.Pairwise (· < ·)->(∀ b ∈ T,3<=wz z (f b))->Lay s (T.map fun b=>(⟨place f z s T b,wz z (f b),false⟩:Tl)) (s+widths f z T)
 | [],s,_,_=>by simp [Lay,widths]
 | a :: r,s,hp,h=>by
  obtain ⟨p1,p2⟩:=List.pairwise_cons.1 hp;refine ⟨by simp [place],h a (by simp), ?_⟩;have ih:=lay_cells (f:=f) (z:=z) (s:=s+wz z (f a)) p2 fun b hb=>h b (by simp [hb])
  have e:(r.map fun b=>(⟨place f z s (a :: r) b,wz z (f b),false⟩:Tl))=r.map fun b=>(⟨place f z (s+wz z (f a)) r b,wz z (f b),false⟩:Tl):=by
   apply List.map_congr_left;intro b hb;have:b ≠ a:=by have:=p1 b hb;omega
   simp [place,this]
  show Lay (s+wz z (f a)) (List.map _ r) _;rw [e,show s+widths f z (a :: r)=s+wz z (f a)+widths f z r by simp [widths,Nat.add_assoc]];exact ih
theorem free_sum {f:Nat->Int} {z:List Int}:∀ {s n:Nat} {L:List Tl},Lay s L n->(∀ t ∈ L,t.fr=false->t.k=wz z (f t.a))->s+widths f z (adsOf L)=n \/ s+widths f z (adsOf L)+3<=n
 | s,n,[],h,_=>.inl (by have:s=n:=h;simpa [adsOf,widths] using this)
 | s,n,t :: r,h,hk=>by
  obtain ⟨h1,h2,h3⟩:=h;have ih:=free_sum h3 fun u hu=>hk u (by simp [hu])
  have e:adsOf (t :: r)=(if t.fr then [] else [t.a]) ++ adsOf r:=by
   cases hf:t.fr <;> simp [adsOf,hf]
  rw [e,widths_app]
  cases hf:t.fr
  . have:=hk t (by simp) hf;simp only [Bool.false_eq_true,if_false,widths];omega
  simp only [if_true,widths];omega
theorem ow_rep (n j:Nat):ow (List.replicate n (0:Int)) j=0:=by
 unfold ow
 rw [List.getD_eq_getElem?_getD,List.getElem?_replicate]
 split <;> rfl
structure Moved (S S':Hs) (M:List (Nat × Int)) (m:Nat->Nat):Prop where
 sizes:S'.sizes=S.sizes
 order:S'.order=S.order
 len:S'.words.length=S.words.length
 taken:S'.taken=S.taken.map m
 up:KeysUp M
 get:∀ b,getI b M=if b ∈ S.taken then some ((m b:Nat):Int) else none
 tag:∀ b ∈ S.taken,ow S'.words (m b)=ow S.words b
 hold:∀ b ∈ S.taken,ow S'.words (m b+2)=ow S.words (b+2)
 fs:∀ b ∈ S.taken,fz (ow S'.words) S.sizes (m b)=nz (ow S.words) S.sizes m b
 inj:∀ a ∈ S.taken,∀ b ∈ S.taken,m a=m b->a=b
theorem map_inj {m:Nat->Nat} {T:List Nat} (hi:∀ a ∈ T,∀ b ∈ T,m a=m b->a=b):∀ {l l':List Int},(∀ x ∈ l,∃ k ∈ T,x=(k:Int))->(∀ x ∈ l',∃ k ∈ T,x=(k:Int))->l.map (to' m)=l'.map (to' m)->l=l'
 | [],[],_,_,_=>rfl
 | [],_ :: _,_,_,h=>by simp at h
 | _ :: _,[],_,_,h=>by simp at h
 | x :: l,y :: l',h1,h2,h=>by
  simp only [List.map_cons,List.cons.injEq] at h;obtain ⟨a,ha,rfl⟩:=h1 x (by simp);obtain ⟨b,hb,rfl⟩:=h2 y (by simp);have e:m a=m b:=by
   have:=h.1;unfold to' at this;rw [Int.toNat_natCast,Int.toNat_natCast] at this;omega
  rw [hi a ha b hb e,map_inj hi (fun z hz=>h1 z (by simp [hz])) (fun z hz=>h2 z (by simp [hz])) h.2]
theorem count_map {m:Nat->Nat} {T:List Nat} (hi:∀ a ∈ T,∀ b ∈ T,m a=m b->a=b) {b:Nat} (hb:b ∈ T):∀ {l:List Int},(∀ x ∈ l,∃ k ∈ T,x=(k:Int))->(l.map (to' m)).count ((m b:Nat):Int)=l.count (b:Int)
 | [],_=>rfl
 | x :: l,h=>by
  obtain ⟨a,ha,rfl⟩:=h x (by simp);rw [List.map_cons,List.count_cons,List.count_cons,count_map hi hb fun z hz=>h z (by simp [hz])];have:(to' m (a:Int) == ((m b:Nat):Int))=((a:Int) == (b:Int)):=by
   unfold to';rw [Int.toNat_natCast,Bool.eq_iff_iff];simp only [beq_iff_eq];constructor
   . intro e;rw [hi a ha b hb (by omega)]
   intro e;rw [show a=b by omega]
  rw [this]
theorem alike_map {m:Nat->Nat} (hi:∀ a ∈ T,∀ b ∈ T,m a=m b->a=b) (h:∀ x ∈ l,∃ k ∈ T,x=(k:Int)) (ha:Hs.alike (l.map (to' m))=true):Hs.alike l=true:=by
 cases l with
 | nil=>rfl
 | cons x r=>
  obtain ⟨a,ha',rfl⟩:=h x (by simp);unfold Hs.alike at ha ⊢;rw [List.all_eq_true] at ha ⊢;intro y hy;obtain ⟨b,hb,rfl⟩:=h y hy;have h1:=ha (to' m (b:Int)) (List.mem_map_of_mem hy);have h2:to' m (b:Int)=to' m (a:Int):=by simpa using h1
  unfold to' at h2;rw [Int.toNat_natCast,Int.toNat_natCast] at h2;have:=hi b hb a ha' (by omega);simp [this]
theorem links_cells {f:Nat->Int} {l:Nat} {x:Int}:∀ {P:List Tl},(∀ t ∈ P,t.fr=false)->(Links f l P x ↔ f l=x)/\lastL l P=l
 | [],_=>⟨Iff.rfl,rfl⟩
 | t :: r,h=>by
  have:=links_cells (f:=f) (l:=l) (x:=x) (P:=r) fun u hu=>h u (by simp [hu])
  unfold Links lastL;rw [h t (by simp)]
  simpa using this
theorem sep_cells:∀ {P:List Tl},(∀ t ∈ P,t.fr=false)->Sep P
 | [],_=>trivial
 | [_],_=>trivial
 | t :: u :: r,h=>⟨by rw [h t (by simp)];simp,sep_cells fun v hv=>h v (by simp [hv])⟩
set_option maxHeartbeats 1000000 in
theorem moved_all {ch:Nat->List Nat} (h:Wf S B L ch):∃ M m S' L' ch',S.moved=some (M,S')/\Moved S S' M m/\Wf S' B L' ch'/\(∃ P q,L'=P ++ q/\(∀ t ∈ P,t.fr=false)/\(q=[] \/ ∃ t,q=[t]/\t.fr=true))/\m=place (ow S.words) S.sizes 17 S.taken/\ch'=ccOf S m S.taken (fun _=>[])/\(∀ b ∈ S.taken,ow S'.words (m b+1)=ow S.words (b+1)) /\
    L'=(S.taken.map fun b=>(⟨m b,wz S.sizes (ow S.words b),false⟩:Tl)) ++ (if 17+widths (ow S.words) S.sizes S.taken < S.words.length then [⟨17+widths (ow S.words) S.sizes S.taken,S.words.length-(17+widths (ow S.words) S.sizes S.taken),true⟩] else []):=by
  have hlo:=h.lo;have hhi:=h.hi;have hw:=h.widths_;have hup:=h.up;have hfs:17+widths (ow S.words) S.sizes S.taken=S.words.length \/ 17+widths (ow S.words) S.sizes S.taken+3<=S.words.length:=by
   rw [h.taken];exact free_sum h.parts.lay fun t ht hf=>((h.parts.ok t ht).cell hf).2
  obtain ⟨W0,M,v1,v2,v3,v4,v5,v6⟩:=moves_spec h S.taken (List.replicate S.words.length 0) 17 [] hup (fun a ha=>ha) List.Pairwise.nil (by simp;omega);rw [List.length_replicate] at v2;have hin:=fun b (hb:b ∈ S.taken)=>place_in (f:=ow S.words) (z:=S.sizes) (s:=17) hb
  have hmup:=fun a (ha:a ∈ S.taken) b (hb:b ∈ S.taken)=>place_up (f:=ow S.words) (z:=S.sizes) (s:=17) hup ha hb
  have hlay:=lay_cells (f:=ow S.words) (z:=S.sizes) (s:=17) hup fun b hb=>by have:=h.part hb;omega
  generalize hm:place (ow S.words) S.sizes 17 S.taken=m at *;generalize hnx:17+widths (ow S.words) S.sizes S.taken=next at *;have hget:∀ b,getI b M=if b ∈ S.taken then some ((m b:Nat):Int) else none:=fun b=>by rw [v4];rfl
  have z0:∀ j,j < 17 \/ next<=j->ow W0 j=0:=fun j hj=>by rw [v6 j hj,ow_rep]
  have I0:Mv S m next [] S.taken W0 (fun _=>[]):=⟨v2,v5,by simp,fun c hc=>z0 c (.inl (by omega)),by simp,by simp,fun j hj=>z0 j (by omega)⟩
  have hm2:∀ a ∈ S.taken,∀ b ∈ S.taken,a < b->m a+wz S.sizes (ow S.words a)<=m b:=fun a ha b hb hab=>hmup a ha b hb hab
  obtain ⟨W1,w1,I⟩:=rechain_spec h (M:=M) (m:=m) (next:=next) (by omega) (fun b hb=>by rw [hget,if_pos hb]) (fun b hb=>hin b hb) hm2 S.taken [] W0 _ (by simpa using hup) (by simp) I0;simp only [List.nil_append,List.map_nil] at w1 I;generalize hcc:ccOf S m S.taken (fun _=>[])=cc at *;have hinj:∀ a ∈ S.taken,∀ b ∈ S.taken,m a=m b->a=b:=fun a ha b hb e=>by
   have pa:=h.part ha;have pb:=h.part hb
   rcases Nat.lt_trichotomy a b with h1 | h1 | h1
   . have:=hm2 a ha b hb h1;omega
   . exact h1
   have:=hm2 b hb a ha h1;omega
  have hI:=I.len
  -- the words at last
  obtain ⟨W2,hrun,l2,g2,g16,gn⟩:∃ W2,S.moved=some (M,{ S with words:=W2,taken:=S.taken.map m })/\W2.length=S.words.length/\(∀ j,j ≠ 16->j < next->ow W2 j=ow W1 j)/\(if next < S.words.length then ow W2 16=next/\ow W2 (next+1)=((S.words.length-next:Nat):Int) /\ ∀ j,next<=j->j ≠ next+1->ow W2 j=0 else ow W2 16=0)/\True:=by
   by_cases hlt:next < S.words.length
   . obtain ⟨Wa,ea,la,ga⟩:=wr_ow (W:=W1) (i:=16) (next:Int) (by omega);obtain ⟨Wb,eb,lb,gb⟩:=wr_ow (W:=Wa) (i:=next+1) ((W0.length:Int)-next) (by omega);refine ⟨Wb, ?_,by omega,fun j h1 h2=>by rw [gb,if_neg (by omega),ga,if_neg h1], ?_,trivial⟩
     . unfold Hs.moved;rw [v1];simp only [Option.bind_eq_bind,Option.bind_some];rw [w1];simp only [Option.bind_some];rw [if_pos (by omega),ea];simp only [Option.bind_some];rw [eb];rfl
     rw [if_pos hlt];have:=hin;refine ⟨by rw [gb,if_neg (by omega),ga,if_pos rfl],by rw [gb,if_pos rfl];omega,fun j h1 h2=>?_⟩;rw [gb,if_neg h2,ga,if_neg (by omega)];exact I.rest j (.inr h1)
   refine ⟨W1, ?_,hI,fun _ _ _=>rfl, ?_,trivial⟩
   . unfold Hs.moved;rw [v1];simp only [Option.bind_eq_bind,Option.bind_some];rw [w1];simp only [Option.bind_some];rw [if_neg (by omega)]
   rw [if_neg hlt];exact I.rest 16 (.inl rfl)
  have D:∀ b ∈ S.taken,ow W2 (m b)=ow S.words b/\ow W2 (m b+1)=ow S.words (b+1)/\ow W2 (m b+2)=ow S.words (b+2)/\ow W2 (m b+3)=ow W1 (m b+3)/\fz (ow W2) S.sizes (m b)=nz (ow S.words) S.sizes m b:=fun b hb=>by
   obtain ⟨d1,d2,d3,d4⟩:=I.done b hb;have pb:=h.part hb;have qb:=hin b hb;have e0:ow W2 (m b)=ow W1 (m b):=g2 _ (by omega) (by omega);refine ⟨e0.trans d1,(g2 _ (by omega) (by omega)).trans d2,(g2 _ (by omega) (by omega)).trans d3,g2 _ (by omega) (by omega), ?_⟩;rw [<- d4];unfold fz;rw [e0];exact cut_congr fun k hk=>g2 _ (by omega) (by rw [d1] at hk;omega)
  have kaddr:∀ a ∈ S.taken,∀ x ∈ kz (ow S.words) S.sizes a,∃ k ∈ S.taken,x=(k:Int):=fun a ha x hx=>by
   obtain ⟨b,hb,e,_⟩:=h.cells.kids a ha x hx;exact ⟨b,hb,e⟩
  have DK:∀ b ∈ S.taken,kz (ow W2) S.sizes (m b)=(kz (ow S.words) S.sizes b).map (to' m):=fun b hb=>by
   obtain ⟨d1,_,_,_,d5⟩:=D b hb;unfold kz;rw [d1,d5];unfold nz
   split <;> simp
  have mT:∀ x,x ∈ S.taken.map m ↔ ∃ b ∈ S.taken,m b=x:=fun x=>List.mem_map
  have fzn:∀ b ∈ S.taken,isEnd (ow S.words b)=false->nz (ow S.words) S.sizes m b=(fz (ow S.words) S.sizes b).map (to' m):=fun b _ he=>by simp [nz,he]
  have fze:∀ b ∈ S.taken,isEnd (ow S.words b)=true->nz (ow S.words) S.sizes m b=fz (ow S.words) S.sizes b:=fun b _ he=>by simp [nz,he]
  have kfz:∀ b ∈ S.taken,isEnd (ow S.words b)=false -> ∀ x ∈ fz (ow S.words) S.sizes b,∃ k ∈ S.taken,x=(k:Int):=fun b hb he x hx=>kaddr b hb x (by unfold kz;rw [he];simpa using hx)
  let P:List Tl:=S.taken.map fun b=>(⟨m b,wz S.sizes (ow S.words b),false⟩:Tl)
  let q:List Tl:=if next < S.words.length then [⟨next,S.words.length-next,true⟩] else []
  have hPf:∀ t ∈ P,t.fr=false:=fun t ht=>by
   obtain ⟨b,_,rfl⟩:=List.mem_map.1 ht;rfl
  have hq:q=[]/\next=S.words.length \/ q=[⟨next,S.words.length-next,true⟩]/\next+3<=S.words.length:=by
   by_cases hlt:next < S.words.length
   . exact .inr ⟨if_pos hlt,by omega⟩
   exact .inl ⟨if_neg hlt,by omega⟩
  have hPlay:Lay 17 P next:=hlay;have hads:adsOf (P ++ q)=S.taken.map m:=by
   rw [adsOf_app];have e1:adsOf q=[]:=by rcases hq with ⟨e,_⟩ | ⟨e,_⟩ <;> rw [e] <;> rfl
   have e2:adsOf P=S.taken.map m:=by
    unfold adsOf;rw [List.filter_eq_self.2 fun t ht=>by rw [hPf t ht];rfl];show (S.taken.map _).map _=_;rw [List.map_map];rfl
   rw [e1,e2,List.append_nil]
  refine ⟨M,m,{ S with words:=W2,taken:=S.taken.map m },P ++ q,cc,hrun,⟨rfl,rfl,l2,rfl,v3,hget,fun b hb=>(D b hb).1,fun b hb=>(D b hb).2.2.1,fun b hb=>(D b hb).2.2.2.2,hinj⟩, ?_,⟨P,q,rfl,hPf, ?_⟩,rfl,hcc.symm,fun b hb=>(D b hb).2.1,rfl⟩
  . exact
    { fr:=h.fr
      lo:=by show 20<=W2.length;omega
      hi:=by show W2.length<=100000;omega
      bd:=h.bd
      parts:=by
       show Parts (ow W2) S.sizes (P ++ q) W2.length;rw [l2];refine ⟨Lay.app.2 ⟨next,hPlay, ?_⟩,Links.app.2 ?_,Sep.app.2 ⟨sep_cells hPf, ?_,by rw [ltF_none hPf];simp⟩,fun t ht=>?_⟩
       . rcases hq with ⟨e,e'⟩ | ⟨e,e'⟩
         . rw [e];exact e'
         rw [e];refine ⟨rfl,by show 3<=S.words.length-next;omega, ?_⟩;show next+(S.words.length-next)=S.words.length;omega
       . rw [(links_cells hPf).1,(links_cells (f:=ow W2) (l:=16) (x:=0) hPf).2]
         rcases hq with ⟨e,e'⟩ | ⟨e,e'⟩
         . rw [e];rw [if_neg (by omega)] at g16;exact ⟨g16,g16⟩
         rw [e];rw [if_pos (by omega)] at g16;exact ⟨g16.1,g16.1,g16.2.2 (next+2) (by omega) (by omega)⟩
       . rcases hq with ⟨e,_⟩ | ⟨e,_⟩ <;> rw [e] <;> trivial
       rcases List.mem_append.1 ht with ht | ht
       . obtain ⟨b,hb,rfl⟩:=List.mem_map.1 ht;unfold PartOk;simp only [Bool.false_eq_true,if_false];rw [(D b hb).1];exact ⟨h.cells.tags b hb,rfl⟩
       rcases hq with ⟨e,e'⟩ | ⟨e,e'⟩
       . rw [e] at ht;cases ht
       rw [e] at ht;have:t=⟨next,S.words.length-next,true⟩:=by simpa using ht
       subst this;rw [if_pos (by omega)] at g16;unfold PartOk;simp only [if_true];exact ⟨g16.2.2 next (Nat.le_refl _) (by omega),g16.2.1,fun j h1 h2=>g16.2.2 j (by omega) (by omega)⟩
      taken:=hads.symm
      chains:=by
       show Chains (ow W2) S.sizes (S.taken.map m) cc;refine ⟨fun c hc=>(I.path c hc).congr (g2 _ (by omega) (by omega)) fun x hx=>?_,I.nd,fun c hc x=>?_⟩
       . obtain ⟨b,hb,rfl,_⟩:=(I.mem c hc x).1 hx;exact (D b hb).2.2.2.1
       rw [I.mem c hc x,mT];constructor
       . rintro ⟨b,hb,rfl,e⟩;exact ⟨⟨b,hb,rfl⟩,by rw [(D b hb).1,(D b hb).2.2.2.2];exact e⟩
       rintro ⟨⟨b,hb,rfl⟩,e⟩;rw [(D b hb).1,(D b hb).2.2.2.2] at e;exact ⟨b,hb,rfl,e⟩
      cells:=by
       show Cells (ow W2) S.sizes S.order (S.taken.map m);refine ⟨fun x hx=>?_,fun x hx=>?_,fun x hx y hy=>?_,fun x hx=>?_,fun x hx y hy h1 h2=>?_⟩
       . obtain ⟨b,hb,rfl⟩:=(mT x).1 hx;rw [(D b hb).1];exact h.cells.tags b hb
       . obtain ⟨b,hb,rfl⟩:=(mT x).1 hx;rw [(D b hb).1];intro he;have hwe:wz S.sizes (ow S.words b)=5:=by simp [wz,he]
         have e5:=(D b hb).2.2.2.2;rw [fze b hb he] at e5;have e4:ow W2 (m b+4)=ow S.words (b+4):=by
          have q1:=cut_get (f:=ow W2) (i:=m b+4) (n:=wz S.sizes (ow W2 (m b))-4) (k:=0) (by rw [(D b hb).1,hwe];omega);have q2:=cut_get (f:=ow S.words) (i:=b+4) (n:=wz S.sizes (ow S.words b)-4) (k:=0) (by rw [hwe];omega);unfold fz at e5;rw [e5,q2] at q1
          simpa using q1.symm
         rw [e4];exact h.cells.ends b hb he
       . obtain ⟨b,hb,rfl⟩:=(mT x).1 hx;rw [DK b hb] at hy;obtain ⟨y',hy',rfl⟩:=List.mem_map.1 hy;obtain ⟨k,hk,rfl,hr⟩:=h.cells.kids b hb y' hy';refine ⟨m k,(mT _).2 ⟨k,hk,rfl⟩,by simp [to'], ?_⟩;rw [(D b hb).1,(D k hk).1];exact hr
       . obtain ⟨b,hb,rfl⟩:=(mT x).1 hx;rw [(D b hb).1,(D b hb).2.2.2.2];intro he;rw [fzn b hb he]
         cases ha:Hs.alike ((fz (ow S.words) S.sizes b).map (to' m)) with
         | false=>rfl
         | true=>
          have:=alike_map hinj (kfz b hb he) ha;rw [h.cells.flat b hb he] at this
          cases this
       obtain ⟨a,ha,rfl⟩:=(mT x).1 hx;obtain ⟨b,hb,rfl⟩:=(mT y).1 hy;rw [(D a ha).1,(D b hb).1] at h1;rw [(D a ha).2.2.2.2,(D b hb).2.2.2.2] at h2;have:a=b:=by
        refine h.cells.one a ha b hb h1 ?_
        cases he:isEnd (ow S.words a) with
        | true=>
         rw [fze a ha he,fze b hb (by rw [<- h1];exact he)] at h2;exact h2
        | false=>
         have he':isEnd (ow S.words b)=false:=by rw [<- h1];exact he
         rw [fzn a ha he,fzn b hb he'] at h2;exact map_inj hinj (kfz a ha he) (kfz b hb he') h2
       rw [this]
      uses:=by
       intro x hx;obtain ⟨b,hb,rfl⟩:=(mT x).1 hx;show ow W2 (m b+1)=cnt (ow W2) S.sizes (m b) (S.taken.map m);rw [(D b hb).2.1,h.uses b hb];have key:∀ T:List Nat,(∀ c ∈ T,c ∈ S.taken)->cnt (ow W2) S.sizes (m b) (T.map m)=cnt (ow S.words) S.sizes b T:=by
        intro T
        induction T with
        | nil=>intro _;rfl
        | cons c T ih=>
         intro hT;have hc:=hT c (by simp);show List.count _ (kz (ow W2) S.sizes (m c))+cnt _ _ _ (T.map m)=_;rw [DK c hc,count_map hinj hb (kaddr c hc),ih fun d hd=>hT d (by simp [hd])];rfl
       rw [key S.taken fun c hc=>hc]
      holds:=fun x hx=>by
       obtain ⟨b,hb,rfl⟩:=(mT x).1 hx;show 0<=ow W2 (m b+2)/\ow W2 (m b+2)<=B
       rw [(D b hb).2.2.1];exact h.holds b hb }
  rcases hq with ⟨e,_⟩ | ⟨e,_⟩
  . exact .inl e
  exact .inr ⟨_,e,rfl⟩
theorem moved_wf {ch:Nat->List Nat} (h:Wf S B L ch):∃ M m S' L' ch',S.moved=some (M,S')/\Moved S S' M m/\Wf S' B L' ch' /\ ∃ P q,L'=P ++ q/\(∀ t ∈ P,t.fr=false)/\(q=[] \/ ∃ t,q=[t]/\t.fr=true):=by
 obtain ⟨M,m,S',L',ch',h1,h2,h3,h4,_⟩:=moved_all h
 exact ⟨M,m,S',L',ch',h1,h2,h3,h4⟩
end Hp
namespace Hp
def bef:Nat->List Tl->Nat->Nat
 | l,[],_=>l
 | l,_ :: _,0=>l
 | _,t :: r,i+1=>bef (t.a+2) r i
theorem bef_zero (l:Nat) (F:List Tl):bef l F 0=l:=by cases F <;> rfl
theorem bef_succ:∀ {l:Nat} {F:List Tl} {i:Nat} {t:Tl},F[i]? = some t->bef l F (i+1)=t.a+2
 | _,[],_,_,h=>by simp at h
 | l,u :: r,0,t,h=>by
  have:u=t:=by simpa using h
  subst this;show bef (u.a+2) r 0=_;exact bef_zero _ _
 | l,u :: r,i+1,t,h=>by
  show bef (u.a+2) r (i+1)=_;exact bef_succ (by simpa using h)
def freeOf (L:List Tl):List Tl:=L.filter fun t=>t.fr
theorem mem_freeOf {t:Tl}:t ∈ freeOf L ↔ t ∈ L/\t.fr=true:=by simp [freeOf]
theorem links_free {f:Nat->Int}:∀ {l:Nat} {L:List Tl},Links f l L 0->(∀ i t,(freeOf L)[i]? = some t->f (bef l (freeOf L) i)=(t.a:Int))/\f (bef l (freeOf L) (freeOf L).length)=0
 | l,[],h=>⟨by simp [freeOf],h⟩
 | l,t :: r,h=>by
  unfold Links at h
  cases hf:t.fr with
  | false=>
   rw [hf] at h;have e:freeOf (t :: r)=freeOf r:=by simp [freeOf,hf]
   rw [e];exact links_free (by simpa using h)
  | true=>
   rw [hf] at h;simp only [if_true] at h;have e:freeOf (t :: r)=t :: freeOf r:=by simp [freeOf,hf]
   obtain ⟨h1,h2⟩:=links_free h.2;rw [e];refine ⟨fun i u hu=>?_,h2⟩
   cases i with
   | zero=>
    have:t=u:=by simpa using hu
    subst this;exact h.1
   | succ i=>exact h1 i u (by simpa using hu)
theorem free_far:∀ {s n:Nat} {L:List Tl},Lay s L n->Sep L->(freeOf L).Pairwise fun t u=>t.a+t.k < u.a
 | _,_,[],_,_=>List.Pairwise.nil
 | s,n,t :: r,h,hs=>by
  obtain ⟨h1,h2,h3⟩:=h;have ih:=free_far h3 hs.tail
  cases hf:t.fr with
  | false=>
   have e:freeOf (t :: r)=freeOf r:=by simp [freeOf,hf]
   rw [e];exact ih
  | true=>
   have e:freeOf (t :: r)=t :: freeOf r:=by simp [freeOf,hf]
   rw [e];refine List.pairwise_cons.2 ⟨fun u hu=>?_,ih⟩;obtain ⟨hu1,hu2⟩:=mem_freeOf.1 hu
   cases r with
   | nil=>cases hu1
   | cons v r=>
    obtain ⟨q1,q2,q3⟩:=h3
    rcases List.mem_cons.1 hu1 with rfl | hu1
    . exact absurd ⟨hf,hu2⟩ hs.1
    have:=q3.mem hu1;omega
structure Frees (f:Nat->Int) (n:Nat) (F:List Tl):Prop where
 link:∀ i t,F[i]? = some t->f (bef 16 F i)=(t.a:Int)
 last:f (bef 16 F F.length)=0
 part:∀ t ∈ F,17<=t.a/\3<=t.k/\t.a+t.k<=n/\f t.a=0/\f (t.a+1)=t.k /\ ∀ j,t.a+3<=j->j < t.a+t.k->f j=0
 far:∀ i t u,F[i]? = some t->F[i+1]? = some u->t.a+t.k < u.a
theorem Parts.frees {f:Nat->Int} (h:Parts f z L n):Frees f n (freeOf L) where
 link:=(links_free h.links).1
 last:=(links_free h.links).2
 part t ht:=by
  obtain ⟨h1,h2⟩:=mem_freeOf.1 ht;have:=h.lay.mem h1;have:=(h.ok t h1).free h2;exact ⟨by omega,by omega,by omega,this.1,this.2.1,this.2.2⟩
 far i t u h1 h2:=by
  have hp:=free_far h.lay h.sep;rw [List.pairwise_iff_getElem] at hp;obtain ⟨l1,e1⟩:=List.getElem?_eq_some_iff.1 h1;obtain ⟨l2,e2⟩:=List.getElem?_eq_some_iff.1 h2;have:=hp i (i+1) l1 l2 (by omega);rw [e1,e2] at this;exact this
end Hp
namespace Hp
def allCh (ch:Nat->List Nat):Nat->List Nat
 | 0=>[]
 | c+1=>allCh ch c ++ ch c
theorem mem_allCh {ch:Nat->List Nat} {a:Nat}:∀ {k:Nat},a ∈ allCh ch k ↔ ∃ c,c < k/\a ∈ ch c
 | 0=>by simp [allCh]
 | k+1=>by
  unfold allCh;rw [List.mem_append,mem_allCh];constructor
  . rintro (⟨c,h1,h2⟩ | h)
    . exact ⟨c,by omega,h2⟩
    exact ⟨k,by omega,h⟩
  rintro ⟨c,h1,h2⟩
  by_cases e:c=k
  . subst e;exact .inr h2
  exact .inl ⟨c,by omega,h2⟩
theorem allCh_nodup {f:Nat->Int} {z:List Int} {Lv:List Nat} {ch:Nat->List Nat} (h:Chains f z Lv ch):∀ {k:Nat},k<=16->(allCh ch k).Nodup
 | 0,_=>List.Pairwise.nil
 | k+1,hk=>by
  unfold allCh;refine List.nodup_append.2 ⟨allCh_nodup h (by omega),h.nodup k (by omega),fun a ha b hb e=>?_⟩;subst e;obtain ⟨c,h1,h2⟩:=mem_allCh.1 ha;have e1:=((h.mem c (by omega) a).1 h2).2;have e2:=((h.mem k (by omega) a).1 hb).2;omega
theorem allCh_sub {f:Nat->Int} {Lv:List Nat} {ch:Nat->List Nat} (h:Chains f z Lv ch) (hk:k<=16):∀ a ∈ allCh ch k,a ∈ Lv:=fun a ha=>by
 obtain ⟨c,h1,h2⟩:=mem_allCh.1 ha
 exact ((h.mem c (by omega) a).1 h2).1
theorem allCh_all {f:Nat->Int} {Lv:List Nat} {ch:Nat->List Nat} (h:Chains f z Lv ch) (hn:Lv.Nodup):(allCh ch 16).length=Lv.length:=by
 have h1:=nodup_len (allCh_nodup h (Nat.le_refl 16)) (allCh_sub h (Nat.le_refl 16))
 have h2:=nodup_len hn (m:=allCh ch 16) fun a ha=>mem_allCh.2 ⟨_,cz_lt _ _,(h.mem _ (cz_lt _ _) a).2 ⟨ha,rfl⟩⟩
 omega
def PathV (f:Nat->Int):Int->List Nat->Prop
 | x,[]=>x=0
 | x,a :: r=>x=(a:Int)/\a ≠ 0/\PathV f (f (a+3)) r
theorem Path.v {f:Nat->Int}:∀ {l:Nat} {r:List Nat},Path f l r->PathV f (f l) r
 | _,[],h=>h
 | _,_ :: _,h=>⟨h.1,h.2.1,Path.v h.2.2⟩
end Hp
open Go.RowKit Go.Maps
theorem dSame_any {d:Nat} {m:List Int} (h:SliceAt w p c l) (k:SliceAt w q d m) :
    Calls Tryz.prog 24 #[.slice p l.length c,.slice q m.length d] w fun e w'=>e = .returned (.bool (decide (l=m)))/\Ext w w':=by
  by_cases hne:l.length=m.length
  case neg=>
   have e:decide (l=m)=false:=by
    apply decide_eq_false;intro e;exact hne (by rw [e])
   rw [e];have hle:=h.le;have hcap:=h.cap;have hle':=k.le;have hcap':=k.cap;clear h k e;generalize l.length=a at *;generalize m.length=b at *;have e1:((a:Int) == (b:Int))=false:=by simpa using (by omega:¬ (a:Int)=b)
   go_enter Tryz.func24,Tryz.ntmps24;go_wp2;go_returns;exact ⟨rfl,exx⟩
  case pos=>
   have hle:=h.le;have hcap:=h.cap;have hcap':=k.cap;have H:=hZ h;have K:=hZ k;clear h k;rw [<- hne];have HM:=hZ hne;clear hne;generalize hL:l.length=n at hle ⊢;have HL:=hZ hL;clear hL;have mixed:Tryz.prog.follows .mixedOrders=true:=by kernel_rfl
   go_enter Tryz.func24,Tryz.ntmps24;go_wp2
   go_loopg [5] n (fun g i wr=>∃ j:Nat,j<=n/\n-j<=g/\i = .int .i64 j/\Aside (Ext w wr)/\Aside (∀ i,i < j->Hp.rd l i=Hp.rd m i))
   case atStart=>exact ⟨0,Nat.zero_le _,by omega,rfl,Ext.refl w,fun m hm=>absurd hm (Nat.not_lt_zero _)⟩
   case round=>
    obtain ⟨j,hj,hg,rfl,HE,HA⟩:=hrel
    by_cases hlt:j < n
    . obtain ⟨f,hf⟩:=rd_get (l:=l) (j:=j) (by rw [HL.out];exact hlt);obtain ⟨f',hf'⟩:=rd_get (l:=m) (j:=j) (by rw [<- HM.out,HL.out];exact hlt);obtain ⟨b,o,rfl,hb,hc⟩:=(H.out.ext HE.out).cells (by rw [HL.out];omega);obtain ⟨b',o',rfl,hb',hc'⟩:=(K.out.ext HE.out).cells (by rw [<- HM.out,HL.out];omega);have g1:=hc j f hf;have g2:=hc' j f' hf';have HF:=hZ hf;have HF':=hZ hf';clear hf hc hf' hc'
      by_cases he:f=f'
      . subst he
        go_wp2_with fail
        go_region_o
        go_wp2
        go_roundg (n-(j+1))
        case measure=>omega
        case rel=>
         refine ⟨j+1,by omega,by omega,by go_num,(show Aside _ from HE.out.drew),(show Aside _ from fun i hi=>?_)⟩
         by_cases e:i=j
         . subst e;rw [HF.out,HF'.out]
         exact HA.out i (by omega)
      have e1:(f == f')=false:=by simpa using he
      go_wp2_with fail
      go_region_o
      go_wp2;go_returns;refine ⟨?_,HE.out.drew⟩;have e:decide (l=m)=false:=by
       apply decide_eq_false;rintro rfl;have:=HF.out;rw [HF'.out] at this
       cases this
       exact he rfl
      rw [e];rfl
    have:j=n:=by omega
    subst this;go_wp2;go_returns;refine ⟨?_,HE.out⟩;have e:decide (l=m)=true:=decide_eq_true (eq_of_rd HM.out (by rw [HL.out];exact HA.out));rw [e];rfl
theorem dSame_is {d:Nat} {m:List Int} {b:Bool} (hb:decide (l=m)=b) (h:SliceAt w p c l) (k:SliceAt w q d m) :
    Calls Tryz.prog 24 #[.slice p l.length c,.slice q m.length d] w fun e w'=>e = .returned (.bool b)/\Ext w w':=by
  subst hb;exact dSame_any h k
def lastWords:List Int:=[0,20,2,0,0,5,20,1,0,0,7,2,1,0,0,17,22,1,0,0,0,17,27]
theorem last_any (w:World):Calls Tryz.prog 58 #[] w fun e w'=>e = .returned (.slice (some ⟨w.heap.size,0,none⟩) 23 23)/\w'=w.alloc (.cells (ints lastWords).toArray 3):=by
 go_enter Tryz.func58,Tryz.ntmps58
 go_wp2
 go_returns
 exact ⟨rfl,rfl⟩
end Go.Proofs.YtdokmmhjmclmnaaGreat
