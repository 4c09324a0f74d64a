/-
  Part 2 of a proof: PL7 PL8 HRel HMap HLive PL9 HMapI HMoveM PL10 PL11 PL12 PL14 PL15 HFn1 HAt HAt2.
-/
import Derived.Lib.SliceRun
import Derived.Maps.Ext
import Derived.Maps.OwnSet
import Derived.Test.YtdokmmhjmclmnaaGreatRows
import Derived.Test.YtdokmmhjmclmnaaGreatMV01
set_option linter.unusedSimpArgs false
set_option linter.unusedVariables false
set_option linter.unusedSectionVars false
set_option linter.unnecessarySimpa false
namespace Go.Proofs.YtdokmmhjmclmnaaGreat
variable {W' w w' w0 wb:World} {B a b base c cap ce cn f g gb i j k lb m n oc s sc:Nat} {choice t x:Int} {G W fs l o xs z:List Int} {L:List Hp.Tl} {S S':Hp.Hs} {A N T:List Nat} {M:List (Nat × Int)} {op p pe pn q sp:Option Addr}
namespace Hp
theorem adrs_of:∀ {l:List Int},(∀ x ∈ l,∃ b:Nat,x=(b:Int)) -> ∃ r,Hs.adrs l=some r/\r.length=l.length /\ ∀ b,b ∈ r ↔ (b:Int) ∈ l
 | [],_=>⟨[],rfl,rfl,by simp⟩
 | x :: l,h=>by
  obtain ⟨b,rfl⟩:=h x (by simp);obtain ⟨r,h1,h2,h3⟩:=adrs_of (l:=l) fun y hy=>h y (by simp [hy])
  refine ⟨b :: r, ?_,by simp [h2],fun c=>?_⟩
  . unfold Hs.adrs at h1 ⊢;rw [List.mapM_cons];have:adr (b:Int)=some b:=by simp [adr]
    rw [this,h1];rfl
  simp only [List.mem_cons,h3];constructor
  . rintro (e | e)
    . exact .inl (by omega)
    exact .inr e
  rintro (e | e)
  . exact .inl (by omega)
  exact .inr e
def pot (f:Nat->Int) (z:List Int) (L:List Nat):List Nat->Nat
 | []=>0
 | b :: r=>(if L.contains b then 0 else (kz f z b).length)+pot f z L r
theorem pot_le {f:Nat->Int} {z:List Int} (L:List Nat):∀ T:List Nat,pot f z L T<=widths f z T
 | []=>Nat.le_refl _
 | b :: r=>by
  have:=pot_le (f:=f) (z:=z) L r;have:=kz_len (f:=f) (z:=z) (a:=b);unfold pot widths
  split <;> omega
theorem pot_out {f:Nat->Int} {z:List Int} {L:List Nat} {a:Nat}:∀ {T:List Nat},a ∉ T->pot f z (Hs.insert a L) T=pot f z L T
 | [],_=>rfl
 | b :: r,h=>by
  have h1:b ≠ a:=fun e=>h (by simp [e])
  have e:(Hs.insert a L).contains b=L.contains b:=by
   rw [Bool.eq_iff_iff];simp [mem_insert,h1]
  unfold pot;rw [e,pot_out fun hm=>h (by simp [hm])]
theorem pot_ins {f:Nat->Int} {z:List Int} {L:List Nat} {a:Nat} (hL:a ∉ L):∀ {T:List Nat},T.Pairwise (· < ·)->a ∈ T->pot f z (Hs.insert a L) T+(kz f z a).length=pot f z L T
 | [],_,h=>by cases h
 | b :: r,hp,h=>by
  obtain ⟨h1,h2⟩:=List.pairwise_cons.1 hp
  by_cases e:b=a
  . subst e;have hr:b ∉ r:=fun hm=>by have:=h1 b hm;omega
    have e1:(Hs.insert b L).contains b=true:=by simp [mem_insert]
    have e2:L.contains b=false:=by simpa using hL
    unfold pot;rw [e1,e2,pot_out hr];simp;omega
  have hr:a ∈ r:=by
   rcases List.mem_cons.1 h with h' | h'
   . exact absurd h'.symm e
   exact h'
  have e1:(Hs.insert a L).contains b=L.contains b:=by
   rw [Bool.eq_iff_iff];simp [mem_insert,e]
  have:=pot_ins (f:=f) (z:=z) hL h2 hr;unfold pot;rw [e1];omega
theorem Wf.adrs_ {ch:Nat->List Nat} (h:Wf S B L ch) (ha:a ∈ S.taken):∃ r,Hs.adrs (kz (ow S.words) S.sizes a)=some r/\r.length=(kz (ow S.words) S.sizes a).length /\ ∀ b ∈ r,b ∈ S.taken:=by
 obtain ⟨r,h1,h2,h3⟩:=adrs_of (l:=kz (ow S.words) S.sizes a) fun x hx=>by
  obtain ⟨b,_,e,_⟩:=h.cells.kids a ha x hx;exact ⟨b,e⟩
 refine ⟨r,h1,h2,fun b hb=>?_⟩
 obtain ⟨b',hb',e,_⟩:=h.cells.kids a ha _ ((h3 b).1 hb)
 have:b=b':=by omega
 rw [this]
 exact hb'
theorem mark_total {S:Hs} {B:Nat} {Lt:List Tl} {ch:Nat->List Nat} (h:Wf S B Lt ch):∀ (n:Nat) (L st:List Nat),(∀ a ∈ st,a ∈ S.taken)->st.length+pot (ow S.words) S.sizes L S.taken<=n -> ∃ r,S.markFrom n L st=some r
 | n,L,[],_,_=>⟨L,by cases n <;> rfl⟩
 | 0,L,a :: st,_,hn=>by simp at hn
 | n+1,L,a :: st,hs,hn=>by
  simp only [List.length_cons] at hn;unfold Hs.markFrom
  by_cases hc:L.contains a=true
  . rw [if_pos hc];exact mark_total h n L st (fun b hb=>hs b (by simp [hb])) (by omega)
  rw [if_neg hc];have ha:=hs a (by simp);obtain ⟨r,h1,h2,h3⟩:=h.adrs_ ha;rw [h.kids_ ha];simp only [Option.bind_eq_bind,Option.bind_some,h1];have:=pot_ins (f:=ow S.words) (z:=S.sizes) (L:=L) (a:=a) (by simpa using hc) h.up ha;exact mark_total h n _ _ (fun b hb=>by
   rcases List.mem_append.1 hb with hb | hb
   . exact h3 b hb
   . exact hs b (by simp [hb])) (by rw [List.length_append];omega)
theorem held_total {S:Hs}:∀ {T:List Nat},(∀ a ∈ T,a+2 < S.words.length) -> ∃ r,S.held T=some r/\r.length<=T.length /\ ∀ a ∈ r,a ∈ T
 | [],_=>⟨[],rfl,Nat.le_refl _,by simp⟩
 | a :: r,h=>by
  obtain ⟨q,h1,h2,h3⟩:=held_total (S:=S) (T:=r) fun b hb=>h b (by simp [hb])
  unfold Hs.held;rw [h1,rd_ow (h a (by simp))];simp only [Option.bind_eq_bind,Option.bind_some]
  split
  . refine ⟨a :: q,rfl,by simp;omega,fun b hb=>?_⟩
    rcases List.mem_cons.1 hb with rfl | hb
    . simp
    simp [h3 b hb]
  exact ⟨q,rfl,by simp;omega,fun b hb=>by simp [h3 b hb]⟩
theorem live_total {ch:Nat->List Nat} (h:Wf S B L ch):∃ T,S.live=some T:=by
 obtain ⟨R,h1,h2,h3⟩:=held_total (S:=S) (T:=S.taken) fun a ha=>by have:=h.part ha;omega
 unfold Hs.live
 rw [h1]
 simp only [Option.bind_eq_bind,Option.bind_some]
 have:=pot_le (f:=ow S.words) (z:=S.sizes) [] S.taken
 have:=h.widths_
 have:=h.few
 exact mark_total h _ [] R h3 (by omega)
end Hp
namespace Hp
def lastB:Nat->List Tl->Nat
 | b,[]=>b
 | b,t :: r=>if t.fr then lastB t.a r else lastB b r
theorem Lay.cast (h:Lay s L n) (e:n=m):Lay s L m:=e ▸ h
theorem seek_spec {W:List Int} {a:Nat} {X:List Tl} (hX:headF X 0=0 \/ (a:Int)<=headF X 0):∀ (P:List Tl) (b l m s:Nat),Links (ow W) l (P ++ X) 0->Lay s P a->l < s->l < W.length->a < W.length->P.length < m->Hs.seek W a m b l=some (lastB b P,lastL l P)
 | [],b,l,m,s,h,_,_,hl,_,hm=>by
  cases m with
  | zero=>simp at hm
  | succ m=>
   have e:ow W l=headF X 0:=Links.head h;have h0:0<=ow W l:=by rcases hX with h | h <;> omega
   unfold Hs.seek;rw [ra_ow (a:=(ow W l).toNat) hl (by omega)];simp only [Option.bind_eq_bind,Option.bind_some];rw [if_neg (by omega)];rfl
 | t :: r,b,l,m,s,h,hL,hls,hl,ha,hm=>by
  obtain ⟨h1,h2,h3⟩:=hL;simp only [List.cons_append] at h;simp only [List.length_cons] at hm;unfold Links at h
  cases hf:t.fr with
  | false=>
   rw [hf] at h;simp only [Bool.false_eq_true,if_false] at h;have:=seek_spec hX r b l m _ h h3 (by omega) hl ha (by omega)
   simpa [lastB,lastL,hf] using this
  | true=>
   rw [hf] at h;simp only [if_true] at h
   cases m with
   | zero=>simp at hm
   | succ m=>
    have hle:=h3.le;have:=seek_spec hX r t.a (t.a+2) m _ h.2 h3 (by omega) (by omega) ha (by omega);unfold Hs.seek;rw [ra_ow hl h.1];simp only [Option.bind_eq_bind,Option.bind_some];rw [if_pos (by omega),this];simp [lastB,lastL,hf]
theorem last_split:∀ (P:List Tl) (b l:Nat),((∀ t ∈ P,t.fr=false)/\lastB b P=b/\lastL l P=l) \/ ∃ P1 v P2,P=P1 ++ v :: P2/\v.fr=true/\(∀ t ∈ P2,t.fr=false)/\lastB b P=v.a/\lastL l P=v.a+2
 | [],b,l=>.inl ⟨by simp,rfl,rfl⟩
 | t :: r,b,l=>by
  cases hf:t.fr with
  | false=>
   rcases last_split r b l with ⟨h1,h2,h3⟩ | ⟨P1,v,P2,rfl,h2,h3,h4,h5⟩
   . refine .inl ⟨fun u hu=>?_,by simpa [lastB,hf] using h2,by simpa [lastL,hf] using h3⟩
     rcases List.mem_cons.1 hu with rfl | hu
     . exact hf
     exact h1 u hu
   exact .inr ⟨t :: P1,v,P2,rfl,h2,h3,by simpa [lastB,hf] using h4,by simpa [lastL,hf] using h5⟩
  | true=>
   rcases last_split r t.a (t.a+2) with ⟨h1,h2,h3⟩ | ⟨P1,v,P2,rfl,h2,h3,h4,h5⟩
   . exact .inr ⟨[],t,r,rfl,hf,h1,by simpa [lastB,hf] using h2,by simpa [lastL,hf] using h3⟩
   exact .inr ⟨t :: P1,v,P2,rfl,h2,h3,by simpa [lastB,hf] using h4,by simpa [lastL,hf] using h5⟩
theorem headF_ge {s n:Nat}:∀ {Q:List Tl},Lay s Q n->headF Q 0=0 \/ (s:Int)<=headF Q 0
 | [],_=>.inl rfl
 | t :: r,h=>by
  obtain ⟨h1,h2,h3⟩:=h;unfold headF
  cases t.fr
  . rcases headF_ge h3 with h | h
    . exact .inl (by simpa using h)
    right;simp only [Bool.false_eq_true,if_false];omega
  right;simp;omega
structure Right (W1 W2:List Int) (z:List Int) (a k k2 n:Nat) (nx:Int) (Q Q2:List Tl):Prop where
 len:W2.length=W1.length
 lay:Lay (a+k2) Q2 n
 le:k<=k2
 hd:hdF Q2=false
 nxe:nx=headF Q2 0
 ads:adsOf Q2=adsOf Q
 sub:∀ t ∈ Q2,t ∈ Q
 sep:Sep Q2
 out:∀ j,j < a+k \/ a+k2<=j->ow W2 j=ow W1 j
 inn:∀ j,a+k<=j->j < a+k2->ow W2 j=0
 links:∀ (g:Nat->Int) (l':Nat),g l'=nx->(∀ t ∈ Q2,t.fr=true->g (t.a+2)=ow W1 (t.a+2))->Links g l' Q2 0
theorem join_run {W1 W2 W3 : List Int} {x y : Nat} {k w after s : Int} (h1 : rd W1 x = some after) (h2 : rc W1 y = some w) (h3 : ck (k + w) = some s) (h4 : wr W1 y 0 = some W2) (h5 : wr W2 x 0 = some W3) : (do
      let after <- rd W1 x
      let w <- rc W1 y
      some (<- ck (k+w),after,<- wr (<- wr W1 y 0) x 0):Option (Int × Int × List Int))=some (s,after,W3):=by
  rw [h1,h2];simp only [Option.bind_eq_bind,Option.bind_some];rw [h3,h4];simp only [Option.bind_some];rw [h5];rfl
theorem right_spec {W1:List Int} {link:Nat} {Q:List Tl} (hk:3<=k) (hn:W1.length<=100000) (hl:link < W1.length) (h:Links (ow W1) link Q 0) (hL:Lay (a+k) Q W1.length) (hS:Sep Q) (hp:∀ t ∈ Q,PartOk (ow W1) z t) :
    ∃ k2 nx W2 Q2,(if ow W1 link=((a+k:Nat):Int) then do
     let after <- rd W1 (a+k+2)
     let w <- rc W1 (a+k+1)
     some (<- ck (((k:Nat):Int)+w),after,<- wr (<- wr W1 (a+k+1) 0) (a+k+2) 0)
    else some (((k:Nat):Int),ow W1 link,W1):Option (Int × Int × List Int))=some (((k2:Nat):Int),nx,W2)/\Right W1 W2 z a k k2 W1.length nx Q Q2:=by
  cases Q with
  | nil=>
   have e:ow W1 link=0:=h;refine ⟨k,0,W1,[], ?_,rfl,hL,Nat.le_refl _,rfl,rfl,rfl,by simp,trivial,fun _ _=>rfl,fun j h1 h2=>by omega,fun g l' e' _=>e'⟩;rw [if_neg (by omega),e]
  | cons v Q=>
   obtain ⟨l1,l2,l3⟩:=hL;obtain ⟨s1,s2⟩:=Sep.cons.1 hS
   cases hf:v.fr with
   | false=>
    have e:=h.head;unfold headF at e;rw [hf] at e;simp only [Bool.false_eq_true,if_false] at e;have hg:=headF_ge l3;refine ⟨k,ow W1 link,W1,v :: Q, ?_,rfl,⟨l1,l2,l3⟩,Nat.le_refl _,hf,h.head,rfl,by simp,hS,fun _ _=>rfl,fun j h1 h2=>by omega,fun g l' e' hm=>h.move e' hm⟩;rw [if_neg (by omega)]
   | true=>
    have hv:=(hp v (by simp)).free hf;unfold Links at h;rw [hf] at h;simp only [if_true] at h;have hle:=l3.le;rw [l1] at hv h;obtain ⟨W2,e2,q2,g2⟩:=wr_ow (W:=W1) (i:=a+k+1) 0 (by omega);obtain ⟨W3,e3,q3,g3⟩:=wr_ow (W:=W2) (i:=a+k+2) 0 (by omega);have hhd:hdF Q=false:=by
     cases hq:hdF Q with
     | false=>rfl
     | true=>exact absurd ⟨hf,hq⟩ s1
    have had:adsOf Q=adsOf (v :: Q):=by
     simp [adsOf,hf]
    refine ⟨k+v.k,ow W1 (a+k+2),W3,Q, ?_,q3.trans q2, ?_,by omega,hhd,h.2.head,had,fun t ht=>by simp [ht],s2,fun j hj=>?_,fun j h1 h2=>?_,fun g l' e' hm=>h.2.move e' fun t ht hf'=>hm t ht hf'⟩
    . rw [if_pos h.1];have h2:rc W1 (a+k+1)=some (v.k:Int):=by
       rw [rc_ow (by omega) (by rw [hv.2.1];omega) (by rw [hv.2.1];omega),hv.2.1]
      have h3:ck ((k:Int)+(v.k:Int))=some (((k+v.k:Nat)):Int):=by
       rw [Int.natCast_add];exact ck_in (by omega) (by omega)
      exact join_run (rd_ow (by omega)) h2 h3 e2 e3
    . rw [<- Nat.add_assoc];exact l3
    . rw [g3,g2,if_neg (by omega),if_neg (by omega)]
    rw [g3,g2]
    split
    . rfl
    split
    . rfl
    by_cases e:j=a+k
    . rw [e];exact hv.1
    exact hv.2.2 j (by omega) (by omega)
theorem ltF_none:∀ {P:List Tl},(∀ t ∈ P,t.fr=false)->ltF P=false
 | [],_=>rfl
 | [t],h=>h t (by simp)
 | t :: u :: r,h=>by
  have:=ltF_none (P:=u :: r) fun v hv=>h v (by simp [hv])
  simpa [ltF] using this
theorem ltF_app:∀ {X P:List Tl},P ≠ []->ltF (X ++ P)=ltF P
 | [],_,_=>rfl
 | [t],p :: P,_=>by simp [ltF]
 | t :: u :: X,P,h=>by
  have:=ltF_app (X:=u :: X) h
  simpa [ltF] using this
structure Freed (S S':Hs) (z:List Int) (L L':List Tl) (a:Nat):Prop where
 sizes:S'.sizes=S.sizes
 order:S'.order=S.order
 len:S'.words.length=S.words.length
 taken:S'.taken=S.taken.erase a
 parts:Parts (ow S'.words) z L' S.words.length
 ads:∀ b,b ∈ adsOf L' ↔ b ∈ adsOf L/\b ≠ a
 low:∀ j,j < 16->ow S'.words j=ow S.words j
 keep:∀ t ∈ L,t.fr=false->t.a ≠ a -> ∀ j,t.a<=j->j < t.a+t.k->ow S'.words j=ow S.words j
set_option maxHeartbeats 2000000 in
theorem free_spec {P Q:List Tl} (hz:Fr S.sizes) (hn:S.words.length<=100000) (h:Parts (ow S.words) S.sizes (P ++ ⟨a,k,false⟩ :: Q) S.words.length) :
    ∃ S' L',S.free a=some S'/\Freed S S' S.sizes (P ++ ⟨a,k,false⟩ :: Q) L' a:=by
  have hmem:(⟨a,k,false⟩:Tl) ∈ P ++ ⟨a,k,false⟩ :: Q:=by simp
  have hcell:=(h.ok _ hmem).cell rfl;have hum:=h.lay.mem hmem;obtain ⟨lP,l3,lQ⟩:=h.lay.parts;simp only at hcell hum lP l3 lQ;have hwz:=wz_ok hz hcell.1;rw [<- hcell.2] at hwz;obtain ⟨W1,e1,q1,g1⟩:=zero_ow (W:=S.words) (i:=a) (n:=k) (by omega);have hLl:=lay_len_ h.lay;simp only [List.length_append,List.length_cons] at hLl;obtain ⟨s1,s2,s3⟩:=Sep.app.1 h.sep;obtain ⟨s4,s5⟩:=Sep.cons.1 s2
  -- the words of the others
  have hout:∀ j,j < a \/ a+k<=j->ow W1 j=ow S.words j:=fun j hj=>by rw [g1,if_neg (by omega)]
  have mP:∀ t ∈ P,17<=t.a/\t.a+t.k<=a/\3<=t.k:=fun t ht=>lP.mem ht
  have mQ:∀ t ∈ Q,a+k<=t.a/\t.a+t.k<=S.words.length/\3<=t.k:=fun t ht=>lQ.mem ht
  have L1:Links (ow W1) 16 (P ++ Q) 0:=by
   have:Links (ow S.words) 16 (P ++ Q) 0:=by
    have:=h.links;rw [Links.app] at this ⊢;exact this
   refine this.congr (hout _ (by omega)) fun t ht _=>hout _ ?_
   rcases List.mem_append.1 ht with ht | ht
   . have:=mP t ht;omega
   have:=mQ t ht;omega
  have pQ:∀ t ∈ Q,PartOk (ow W1) S.sizes t:=fun t ht=>by
   have:=mQ t ht;exact (h.ok t (by simp [ht])).congr (hout _ (by omega)) fun _=>⟨hout _ (by omega),fun j _ _=>hout _ (by omega)⟩
  have pP:∀ t ∈ P,PartOk (ow W1) S.sizes t:=fun t ht=>by
   have:=mP t ht;exact (h.ok t (by simp [ht])).congr (hout _ (by omega)) fun _=>⟨hout _ (by omega),fun j _ _=>hout _ (by omega)⟩
  have hll:=lastL_lt lP (l:=16) (by omega);have hseek:=seek_spec (W:=W1) (a:=a) (X:=Q) ((headF_ge lQ).elim .inl fun h=>.inr (by omega)) P 0 16 S.fuel 17 L1 lP (by omega) (by omega) (by omega) (by unfold Hs.fuel;omega);obtain ⟨k1,k2'⟩:=Links.app.1 L1;obtain ⟨k2,nx,W2,Q2,hR,R⟩:=right_spec (W1:=W1) (z:=S.sizes) (a:=a) (k:=k) (link:=lastL 16 P) (Q:=Q) (by omega) (by omega) (by omega) k2' (by rw [q1];exact lQ) s5 pQ;generalize hlk:lastL 16 P=link at *;generalize hbf:lastB 0 P=before at *;have q2:=R.len;have r2:=R.out;have r3:=R.inn;have r4:=R.le;have r5:=R.lay.le;have zer:∀ j,a<=j->j < a+k2->ow W2 j=0:=fun j h1 h2=>by
   by_cases hj:j < a+k
   . rw [r2 j (.inl hj),g1,if_pos ⟨h1,hj⟩]
   exact r3 j (by omega) h2
  have outs:∀ j,j < a \/ a+k2<=j->ow W2 j=ow S.words j:=fun j hj=>by
   rw [r2 j (by omega),hout j (by omega)]
  have hfree:S.free a=(do
      let joined <- (if before ≠ 0 then do some (decide ((before:Int)+(<- rc W2 (before+1))=a)) else some false:Option Bool)
      if joined then
       let w <- rc W2 (before+1)
       return { S with words:=(<- wr (<- wr W2 (before+1) (w+k2)) (before+2) nx),taken:=S.taken.erase a }
      else
       return { S with words:=(<- wr (<- wr (<- wr W2 (a+1) k2) (a+2) nx) link a),taken:=S.taken.erase a }):=by
    unfold Hs.free;rw [wideAt_ow hz (by omega) hcell.1,<- hcell.2];simp only [Option.bind_eq_bind,Option.bind_some,e1,hseek];rw [rd_ow (by omega:link < W1.length)];simp only [Option.bind_some];have hR':=hR;simp only [Option.bind_eq_bind] at hR';rw [hR'];rfl
  have mQ2:∀ t ∈ Q2,a+k2<=t.a/\t.a+t.k<=S.words.length/\3<=t.k:=fun t ht=>by
   have:=R.lay.mem ht;omega
  have hads0:adsOf (P ++ ⟨a,k,false⟩ :: Q)=adsOf P ++ a :: adsOf Q:=by
   rw [adsOf_app];show adsOf P ++ adsOf ([⟨a,k,false⟩] ++ Q)=_;rw [adsOf_app];rfl
  have nP:a ∉ adsOf P:=fun hm=>by
   obtain ⟨t,ht,_,e⟩:=mem_adsOf.1 hm;have:=mP t ht;omega
  have nQ:a ∉ adsOf Q:=fun hm=>by
   obtain ⟨t,ht,_,e⟩:=mem_adsOf.1 hm;have:=mQ t ht;omega
  -- no free part ends where the cell begins
  have FAR:ltF P=false->True->(do (if before ≠ 0 then do some (decide ((before:Int)+(<- rc W2 (before+1))=a)) else some false:Option Bool))=some false -> ∃ S' L',S.free a=some S'/\Freed S S' S.sizes (P ++ ⟨a,k,false⟩ :: Q) L' a:=by
   intro hlt _ hj;obtain ⟨W3,e3,q3,g3⟩:=wr_ow (W:=W2) (i:=a+1) (k2:Int) (by omega);obtain ⟨W4,e4,q4,g4⟩:=wr_ow (W:=W3) (i:=a+2) nx (by omega);obtain ⟨W5,e5,q5,g5⟩:=wr_ow (W:=W4) (i:=link) (a:Int) (by omega);have G:∀ j,ow W5 j=if j=link then (a:Int) else if j=a+2 then nx else if j=a+1 then (k2:Int) else ow W2 j:=fun j=>by rw [g5,g4,g3]
   have linkP:link=16 \/ ∃ v ∈ P,v.fr=true/\link=v.a+2:=by
    rw [<- hlk];exact lastL_where
   have GO:∀ j,(j < a \/ a+k2<=j)->j ≠ link->ow W5 j=ow S.words j:=fun j h1 h2=>by
    rw [G,if_neg h2,if_neg (by omega),if_neg (by omega)];exact outs j h1
   refine ⟨{ S with words:=W5,taken:=S.taken.erase a },P ++ ⟨a,k2,true⟩ :: Q2, ?_,rfl,rfl,by show W5.length=_;omega,rfl,⟨Lay.app.2 ⟨a,lP,rfl,by show 3<=k2;omega,R.lay.cast q1⟩,Links.app.2 ⟨?_, ?_⟩,Sep.app.2 ⟨s1,Sep.cons.2 ⟨by rw [R.hd];simp,R.sep⟩,by rw [hlt];simp⟩,fun t ht=>?_⟩,fun b=>?_,fun j hj=>GO j (by omega) (by omega),fun t ht hf hne j h1 h2=>?_⟩
   . rw [hfree,hj];simp only [Option.bind_eq_bind,Option.bind_some,Bool.false_eq_true,if_false,e3,e4,e5];rfl
   . refine k1.turn _ lP (by omega) ?_ (fun hne=>?_) fun v hv hf hne=>?_
     . rw [hlk,G,if_pos rfl];rfl
     . rw [hlk] at hne;rw [GO _ (by omega) hne,hout _ (by omega)]
     rw [hlk] at hne;have:=mP v hv;rw [GO _ (by omega) hne,hout _ (by omega)]
   . rw [hlk];refine ⟨by show ow W5 link=(a:Int);rw [G,if_pos rfl],R.links _ _ ?_ fun t ht _=>?_⟩
     . show ow W5 (a+2)=nx;rw [G,if_neg (by omega),if_pos rfl]
     have:=mQ2 t ht;rw [GO _ (by omega) (by omega),hout _ (by omega)]
   . have hcase:t ∈ P \/ t=⟨a,k2,true⟩ \/ t ∈ Q2:=by simpa using ht
     rcases hcase with ht | rfl | ht
     . have hm:=mP t ht;have nl:∀ j,t.a<=j->j < t.a+t.k->(j=t.a+2->t.fr=false)->j ≠ link:=fun j h1 h2 h3=>by
        rcases linkP with e | ⟨v',hv',hvf',e⟩
        . omega
        have h1':=mP v' hv'
        rcases lP.sep ht hv' with e2 | e2
        . rw [e,<- e2];intro e3;have:=h3 e3;rw [e2,hvf'] at this
          cases this
        omega
       refine (h.ok t (by simp [ht])).congr (GO _ (by omega) (nl _ (by omega) (by omega) (by omega))) fun hf=>⟨GO _ (by omega) (nl _ (by omega) (by omega) (by omega)),fun j h1 h2=>GO _ (by omega) (nl _ (by omega) (by omega) (by omega))⟩
     . unfold PartOk;simp only [if_true];refine ⟨?_, ?_,fun j h1 h2=>?_⟩
       . rw [G,if_neg (by omega),if_neg (by omega),if_neg (by omega)];exact zer _ (by omega) (by omega)
       . rw [G,if_neg (by omega),if_neg (by omega),if_pos rfl]
       rw [G,if_neg (by omega),if_neg (by omega),if_neg (by omega)];exact zer _ (by omega) (by omega)
     have hm:=mQ2 t ht;exact (h.ok t (by simp [R.sub t ht])).congr (GO _ (by omega) (by omega)) fun hf=>⟨GO _ (by omega) (by omega),fun j h1 h2=>GO _ (by omega) (by omega)⟩
   . have:adsOf (P ++ ⟨a,k2,true⟩ :: Q2)=adsOf P ++ adsOf Q:=by
       rw [adsOf_app,<- R.ads];show adsOf P ++ adsOf ([⟨a,k2,true⟩] ++ Q2)=_;rw [adsOf_app];rfl
     rw [this,hads0];simp only [List.mem_append,List.mem_cons];constructor
     . rintro (h | h)
       . exact ⟨.inl h,fun e=>nP (e ▸ h)⟩
       exact ⟨.inr (.inr h),fun e=>nQ (e ▸ h)⟩
     rintro ⟨h | h | h,hne⟩
     . exact .inl h
     . exact absurd h hne
     exact .inr h
   have hcase:t ∈ P \/ t=⟨a,k,false⟩ \/ t ∈ Q:=by simpa using ht
   rcases hcase with ht' | rfl | ht'
   . have hm:=mP t ht';refine GO _ (by omega) ?_
     rcases linkP with e | ⟨v',hv',hvf',e⟩
     . omega
     have h1':=mP v' hv'
     rcases lP.sep ht' hv' with e2 | e2
     . rw [e2,hvf'] at hf
       cases hf
     omega
   . exact absurd rfl hne
   have hm:=mQ t ht';have h3:t ∈ Q2:=by
    have:t.a ∈ adsOf Q2:=by
     rw [R.ads];exact mem_adsOf.2 ⟨t,ht',hf,rfl⟩
    obtain ⟨u,hu,huf,e⟩:=mem_adsOf.1 this;have:=lQ.same (R.sub u hu) ht' e;rw [<- this];exact hu
   have:=mQ2 t h3;exact GO _ (by omega) (by omega)
  rcases last_split P 0 16 with ⟨c1,c2,c3⟩ | ⟨P1,v,P2,hP,c1,c2,c3,c4⟩
  . refine FAR (ltF_none c1) trivial ?_;rw [hbf] at c2;rw [if_neg (by omega)]
  rw [hbf] at c3;rw [hlk] at c4;have hv:=(pP v (by rw [hP];simp)).free c1;have hm:=mP v (by rw [hP];simp);have hx:ow W2 (before+1)=v.k:=by rw [c3,outs _ (by omega),<- hout _ (by omega)];exact hv.2.1
  have hrc:rc W2 (before+1)=some (v.k:Int):=by
   rw [rc_ow (by omega) (by rw [hx];omega) (by rw [hx];omega),hx]
  by_cases h2:P2=[]
  . subst h2;subst hP;obtain ⟨lP1,lv,lv2⟩:=lP.parts;have hva:v.a+v.k=a:=lv2;obtain ⟨W3,e3,q3,g3⟩:=wr_ow (W:=W2) (i:=before+1) ((v.k:Int)+k2) (by omega);obtain ⟨W4,e4,q4,g4⟩:=wr_ow (W:=W3) (i:=before+2) nx (by omega);have G:∀ j,ow W4 j=if j=v.a+2 then nx else if j=v.a+1 then (v.k:Int)+k2 else ow W2 j:=fun j=>by rw [g4,g3,c3]
    have GO:∀ j,(j < v.a \/ a+k2<=j)->ow W4 j=ow S.words j:=fun j h1=>by
     rw [G,if_neg (by omega),if_neg (by omega)];exact outs j (by omega)
    have mP1:∀ t ∈ P1,17<=t.a/\t.a+t.k<=v.a/\3<=t.k:=fun t ht=>lP1.mem ht
    obtain ⟨t1,t2,t3⟩:=Sep.app.1 s1;have hl1:ltF P1=false:=by
     cases hq:ltF P1 with
     | false=>rfl
     | true=>exact absurd ⟨hq,c1⟩ t3
    have k1':Links (ow W1) 16 P1 v.a:=by
     have:=(Links.app.1 k1).1;unfold headF at this;rw [c1] at this
     simpa using this
    have hl2:=lastL_lt lP1 (l:=16) (by omega);have k1'':ow W1 (lastL 16 P1)=v.a:=by
     have:=(Links.app.1 k1).2;unfold Links at this;rw [c1] at this;simp only [if_true] at this;exact this.1
    refine ⟨{ S with words:=W4,taken:=S.taken.erase a },P1 ++ ⟨v.a,v.k+k2,true⟩ :: Q2, ?_,rfl,rfl,by show W4.length=_;omega,rfl,⟨Lay.app.2 ⟨v.a,lP1,rfl,by show 3<=v.k+k2;omega, ?_⟩,Links.app.2 ⟨?_, ?_⟩,Sep.app.2 ⟨t1,Sep.cons.2 ⟨by rw [R.hd];simp,R.sep⟩,by rw [hl1];simp⟩,fun t ht=>?_⟩,fun b=>?_,fun j hj=>GO j (by omega),fun t ht hf hne j h1 h2=>?_⟩
    . rw [hfree,if_pos (by omega),hrc];simp only [Option.bind_eq_bind,Option.bind_some];rw [if_pos (by simp;omega),e3];simp only [Option.bind_some,e4];rfl
    . show Lay (v.a+(v.k+k2)) Q2 _;rw [show v.a+(v.k+k2)=a+k2 by omega];exact R.lay.cast q1
    . show Links (ow W4) 16 P1 (v.a:Int);exact k1'.congr (by rw [GO _ (by omega),hout _ (by omega)]) fun t ht _=>by
       have:=mP1 t ht;rw [GO _ (by omega),hout _ (by omega)]
    . refine ⟨?_,R.links _ _ ?_ fun t ht _=>?_⟩
      . show ow W4 (lastL 16 P1)=(v.a:Int);rw [GO _ (by omega),<- hout _ (by omega)];exact k1''
      . show ow W4 (v.a+2)=nx;rw [G,if_pos rfl]
      have:=mQ2 t ht;rw [GO _ (by omega),hout _ (by omega)]
    . have hcase:t ∈ P1 \/ t=⟨v.a,v.k+k2,true⟩ \/ t ∈ Q2:=by simpa using ht
      rcases hcase with ht | rfl | ht
      . have hm:=mP1 t ht;exact (h.ok t (by simp [ht])).congr (GO _ (by omega)) fun hf=>⟨GO _ (by omega),fun j h1 h2=>GO _ (by omega)⟩
      . unfold PartOk;simp only [if_true];have zz:∀ j,v.a+3<=j \/ j=v.a->j < a+k2->ow W2 j=0:=fun j h1 h2=>by
         by_cases hj:j < a
         . rw [outs _ (by omega),<- hout _ (by omega)]
           rcases h1 with h1 | h1
           . exact hv.2.2 j h1 (by omega)
           rw [h1];exact hv.1
         exact zer j (by omega) h2
        refine ⟨?_, ?_,fun j h1 h2=>?_⟩
        . rw [G,if_neg (by omega),if_neg (by omega)];exact zz _ (.inr rfl) (by omega)
        . rw [G,if_neg (by omega),if_pos rfl]
          push_cast
          rfl
        rw [G,if_neg (by omega),if_neg (by omega)];exact zz _ (.inl h1) (by omega)
      have hm:=mQ2 t ht;exact (h.ok t (by simp [R.sub t ht])).congr (GO _ (by omega)) fun hf=>⟨GO _ (by omega),fun j h1 h2=>GO _ (by omega)⟩
    . have e1:adsOf (P1 ++ ⟨v.a,v.k+k2,true⟩ :: Q2)=adsOf P1 ++ adsOf Q:=by
        rw [adsOf_app,<- R.ads];show adsOf P1 ++ adsOf ([⟨v.a,v.k+k2,true⟩] ++ Q2)=_;rw [adsOf_app];rfl
      have e2:adsOf (P1 ++ [v])=adsOf P1:=by
       rw [adsOf_app];simp [adsOf,c1]
      rw [e2] at nP;rw [e1,hads0,e2];simp only [List.mem_append,List.mem_cons];constructor
      . rintro (h | h)
        . exact ⟨.inl h,fun e=>nP (e ▸ h)⟩
        exact ⟨.inr (.inr h),fun e=>nQ (e ▸ h)⟩
      rintro ⟨h | h | h,hne⟩
      . exact .inl h
      . exact absurd h hne
      exact .inr h
    have hcase:t ∈ P1 \/ t=v \/ t=⟨a,k,false⟩ \/ t ∈ Q:=by simpa using ht
    rcases hcase with ht' | rfl | rfl | ht'
    . have hm:=mP1 t ht';exact GO _ (by omega)
    . rw [c1] at hf
      cases hf
    . exact absurd rfl hne
    have hm:=mQ t ht';have h3:t ∈ Q2:=by
     have:t.a ∈ adsOf Q2:=by
      rw [R.ads];exact mem_adsOf.2 ⟨t,ht',hf,rfl⟩
     obtain ⟨u,hu,huf,e⟩:=mem_adsOf.1 this;have:=lQ.same (R.sub u hu) ht' e;rw [<- this];exact hu
    have:=mQ2 t h3;exact GO _ (by omega)
  refine FAR ?_ trivial ?_
  . rw [hP,show P1 ++ v :: P2=(P1 ++ [v]) ++ P2 by simp,ltF_app h2];exact ltF_none c2
  rw [if_pos (by omega),hrc];simp only [Option.bind_eq_bind,Option.bind_some];have:v.a+v.k < a:=by
   subst hP;obtain ⟨lP1,lv,lv2⟩:=lP.parts
   cases P2 with
   | nil=>exact absurd rfl h2
   | cons p P2=>
    obtain ⟨p1,p2,p3⟩:=lv2;have:=p3.le;omega
  rw [dF]
end Hp
open Go.RowKit
structure But (l:List Nat) (w w':World):Prop where
 os:w'.os=w.os
 tape:w'.tape=w.tape
 output:w'.output=w.output
 size:w.heap.size<=w'.heap.size
 block:∀ k,k < w.heap.size->k ∉ l->w'.heap[k]? = w.heap[k]?
namespace But
variable {l:List Nat} {a b c w w':World}
theorem refl (l:List Nat) (w:World):But l w w:=⟨rfl,rfl,rfl,Nat.le_refl _,fun _ _ _=>rfl⟩
theorem ofExt (h:Ext w w'):But l w w':=⟨h.os,h.tape,h.output,h.size,fun k hk _=>h.block k hk⟩
theorem trans (h:But l a b) (k:But l b c):But l a c:=
 ⟨k.os.trans h.os,k.tape.trans h.tape,k.output.trans h.output,Nat.le_trans h.size k.size,fun i hi hn=>(k.block i (Nat.lt_of_lt_of_le hi h.size) hn).trans (h.block i hi hn)⟩
theorem mono {l':List Nat} (h:But l w w') (hl:∀ x ∈ l,x ∈ l'):But l' w w':=⟨h.os,h.tape,h.output,h.size,fun i hi hn=>h.block i hi (fun hm=>hn (hl i hm))⟩
theorem ext (h:But l a w) (k:Ext w w'):But l a w':=h.trans (ofExt k)
theorem drew (h:But l a w):But l a w.drew:=⟨h.os,h.tape,h.output,h.size,h.block⟩
theorem drewN (h:But l a w) (n:Nat):But l a (w.drewN n):=⟨h.os,h.tape,h.output,h.size,h.block⟩
theorem alloc (h:But l a w) (o:Obj):But l a (w.alloc o):=h.ext (Ext.alloc (Ext.refl _) o)
theorem setCell (h:But l a w) {p:Addr} (hp:p.block ∈ l \/ a.heap.size<=p.block) (u:Value):But l a (w.setCell p u):=
 ⟨h.os,h.tape,h.output,by simpa [World.setCell] using h.size,fun k hk hn=>by
  rw [Below.heap_setCell _ _ _ _ (by rintro rfl;rcases hp with hp | hp;exact hn hp;omega)];exact h.block k hk hn⟩
theorem setCells {g:Nat} (hg:g ∈ l \/ a.heap.size<=g):∀ (vs:List Value) (o:Nat) {w:World},But l a w->But l a (w.setCells g o vs)
 | [],_,_,h=>h
 | v :: r,o,_,h=>setCells hg r (o+1) (h.setCell (p:=⟨g,o,none⟩) hg v)
theorem setRow (h:But l a w) (hg:g ∈ l \/ a.heap.size<=g) (cs:Array Value):But l a (w.setRow g cs):=
 ⟨h.os,h.tape,h.output,by simpa [World.setRow] using h.size,fun k hk hn=>by
  rw [setRow_other _ _ _ _ (by rintro rfl;rcases hg with hp | hp;exact hn hp;omega)];exact h.block k hk hn⟩
theorem turned (h:But l a w) (k:w.mapTurned w' g) (hg:g ∈ l \/ a.heap.size<=g):But l a w':=by
 have q:=k.grown
 refine ⟨q.os.trans h.os,q.tape.trans h.tape,q.output.trans h.output,Nat.le_trans h.size q.size,fun i hi hn=>?_⟩
 rw [q.block i (Nat.lt_of_lt_of_le hi h.size) (by simp;rintro rfl;rcases hg with hp | hp;exact hn hp;omega)]
 exact h.block i hi hn
theorem cell (h:But l w w') (hg:g < w.heap.size) (hn:g ∉ l) (o:Nat):w'.cell? ⟨g,o,none⟩=w.cell? ⟨g,o,none⟩:=by
 simp only [World.cell?,h.block g hg hn]
theorem frozen (h:But l w w') (hg:g < w.heap.size) (hn:g ∉ l) (o:Nat):w'.frozen? ⟨g,o,none⟩=w.frozen? ⟨g,o,none⟩:=by
 simp only [World.frozen?,h.block g hg hn]
theorem toExt (h0:Ext w0 w) (h:But l w w') (hl:∀ x ∈ l,w0.heap.size<=x):Ext w0 w':=
 ⟨h.os.trans h0.os,h.tape.trans h0.tape,h.output.trans h0.output,Nat.le_trans h0.size h.size,fun k hk=>(h.block k (Nat.lt_of_lt_of_le hk h0.size) (fun hm=>by have:=hl k hm;omega)).trans (h0.block k hk)⟩
end But
def ints (l:List Int):List Value:=l.map (Value.int .i64)
theorem ints_length (l:List Int):(ints l).length=l.length:=by simp [ints]
structure WordsAt (w:World) (g:Nat) (W:List Int):Prop where
 row:∃ slack:List Value,w.heap[g]? = some (.cells (ints W ++ slack).toArray 3 (0,0))
 wf:∀ x ∈ W,-9223372036854775808<=x/\x<=9223372036854775807
theorem heap_setCells {g:Nat} {t:TypeId}:∀ (vs:List Value) (o:Nat) (cur:List Value) (w:World),w.heap[g]? = some (.cells cur.toArray t (0,0))->o+vs.length<=cur.length ->
    (w.setCells g o vs).heap[g]? = some (.cells (splice cur o vs).toArray t (0,0))
  | [],o,cur,w,hg,_=>by simpa [World.setCells,splice] using hg
  | v :: r,o,cur,w,hg,hl=>by
   have hl':o+(r.length+1)<=cur.length:=by simpa using hl
   have h1:(w.setCell ⟨g,o,none⟩ v).heap[g]? = some (.cells (cur.set o v).toArray t (0,0)):=by
    rw [setCell_eq_setRow w g o cur.toArray t (0,0) v hg,setRow_heap w g _ _ t _ hg];simp
   have ih:=heap_setCells r (o+1) (cur.set o v) _ h1 (by simp;omega);rw [World.setCells,ih]
   congr 3
   have e:=list_seg_step cur o v r hl';unfold splice;rw [<- List.append_assoc,<- List.append_assoc,e];simp
namespace WordsAt
variable {w w':World} {g:Nat} {W W':List Int}
theorem lt (h:WordsAt w g W):g < w.heap.size:=by
 obtain ⟨s,hg⟩:=h.row
 exact (Array.getElem?_eq_some_iff.1 hg).1
theorem get (h:WordsAt w g W) (hx:Hp.rd W j=some x):w.cell? ⟨g,j,none⟩=some (.int .i64 x):=by
 obtain ⟨s,hg⟩:=h.row
 unfold Hp.rd at hx
 obtain ⟨hl,e⟩:=List.getElem?_eq_some_iff.1 hx
 have h2:(ints W ++ s)[j]? = some (.int .i64 x):=by
  rw [List.getElem?_append_left (by simpa [ints] using hl)];simp [ints,hx]
 simpa [World.cell?,hg] using h2
theorem froz (h:WordsAt w g W) (j:Nat):w.frozen? ⟨g,j,none⟩=false:=by
 obtain ⟨s,hg⟩:=h.row
 simp [World.frozen?,hg]
theorem bound (h:WordsAt w g W) (hx:Hp.rd W j=some x) : -9223372036854775808<=x/\x<=9223372036854775807:=h.wf x (List.mem_of_getElem? hx)
theorem ofBlock (h:WordsAt w g W) (e:w'.heap[g]? = w.heap[g]?):WordsAt w' g W:=⟨by rw [e];exact h.row,h.wf⟩
theorem but (h:WordsAt w g W) {l:List Nat} (k:But l w w') (hg:g ∉ l):WordsAt w' g W:=h.ofBlock (k.block g h.lt hg)
theorem ext (h:WordsAt w g W) (k:Ext w w'):WordsAt w' g W:=h.ofBlock (k.block g h.lt)
theorem set (h:WordsAt w g W) {v:Int} (hw:Hp.wr W j v=some W') (h1 : -9223372036854775808<=v) (h2:v<=9223372036854775807):WordsAt (w.setCell ⟨g,j,none⟩ (.int .i64 v)) g W':=by
 obtain ⟨s,hg⟩:=h.row
 unfold Hp.wr at hw
 split at hw
 case isFalse=>cases hw
 rename_i hl
 cases hw
 refine ⟨⟨s, ?_⟩,fun x hx=>?_⟩
 . rw [setCell_eq_setRow w g j _ _ _ _ hg,setRow_heap w g _ _ _ _ hg];simp [ints,hl,List.set_append_left,List.map_set]
 rcases List.mem_or_eq_of_mem_set hx with hx | rfl
 . exact h.wf x hx
 exact ⟨h1,h2⟩
theorem spliced (h:WordsAt w g W) {cs:List Int} (hw:Hp.lay W i cs=some W') (hc:∀ x ∈ cs,-9223372036854775808<=x/\x<=9223372036854775807)
    (hr:∀ cur:List Value,w.heap[g]? = some (.cells cur.toArray 3 (0,0))->i+cs.length<=cur.length->w'.heap[g]? = some (.cells (splice cur i (ints cs)).toArray 3 (0,0))):WordsAt w' g W':=by
  obtain ⟨s,hg⟩:=h.row;unfold Hp.lay at hw
  split at hw
  case isFalse=>cases hw
  rename_i hl
  cases hw
  refine ⟨⟨s, ?_⟩,fun x hx=>?_⟩
  . rw [hr _ hg (by simp [ints];omega)]
    congr 3
    simp only [splice,ints,List.length_map,List.map_append,List.map_take,List.map_drop];rw [List.take_append_of_le_length (by simp;omega),List.drop_append_of_le_length (by simp;omega)];simp
  simp only [List.mem_append] at hx
  rcases hx with hx | hx | hx
  . exact h.wf x (List.mem_of_mem_take hx)
  . exact hc x hx
  exact h.wf x (List.mem_of_mem_drop hx)
theorem clear (h:WordsAt w g W) (hw:Hp.zero W i n=some W'):WordsAt (w.setCells g i (List.replicate n (.int .i64 0))) g W':=by
 refine h.spliced (i:=i) (cs:=List.replicate n 0) ?_ ?_ ?_
 . unfold Hp.lay;unfold Hp.zero at hw
   simpa using hw
 . intro x hx;rw [List.eq_of_mem_replicate hx];omega
 intro cur hg hl
 rw [show ints (List.replicate n 0)=List.replicate n (.int .i64 0) by simp [ints]]
 exact heap_setCells _ i cur w hg (by simpa using hl)
end WordsAt
def mapOf (T:List Nat):DataW Unit:=.map (T.map fun k:Nat=>(Lit.int .i64 (k:Int),DataW.lit (.bool true)))
def hasLit (T:List Nat):Lit->Bool
 | .int .i64 k=>decide (0<=k) && T.contains k.toNat
 | _=>false
open Go.Maps in
theorem has_mapOf (T:List Nat) (k:Lit):Maps.has (mapOf T) k=hasLit T k:=by
 unfold mapOf
 rw [has_eq]
 induction T with
 | nil => cases k <;> try rfl
          case int q a=>cases q <;> simp [hasLit]
 | cons a r ih=>
  rw [List.map_cons,List.any_cons,ih]
  cases k
  case int q b=>
   cases q <;> simp [Lit.sameKey,hasLit]
   by_cases hb:0<=b
   . simp [hb]
     by_cases e:(a:Int)=b
     . subst e;simp
     have:¬ b.toNat=a:=by omega
     simp [e,this]
   have:¬ (a:Int)=b:=by omega
   simp [hb,this]
  all_goals simp [Lit.sameKey,hasLit]
theorem at_mapOf_true {k:Lit} (h:hasLit T k=true) (z:DataW Unit):(mapOf T).atKey k z = .lit (.bool true):=by
 rw [<- has_mapOf] at h
 unfold mapOf at h ⊢
 rw [Maps.has_eq] at h
 unfold DataW.atKey
 simp only
 cases hf:(T.map fun k:Nat=>(Lit.int .i64 (k:Int),(DataW.lit (.bool true):DataW Unit))).find? (fun p=>p.1.sameKey k) with
 | none=>
  rw [List.find?_eq_none] at hf;rw [List.any_eq_true] at h;obtain ⟨p,hp,hk⟩:=h;exact absurd hk (hf p hp)
 | some p=>
  obtain ⟨n,_,rfl⟩:=List.mem_map.1 (List.mem_of_find?_eq_some hf);rfl
theorem at_mapOf_false {k:Lit} (h:hasLit T k=false) (z:DataW Unit):(mapOf T).atKey k z=z:=
 Maps.atKey_of_not_has (by rw [has_mapOf];exact h) z
theorem size_mapOf (T:List Nat):Maps.size (mapOf T)=T.length:=by simp [mapOf,Maps.size_eq]
theorem canon_mapOf (h:T.Pairwise (· < ·)):Maps.Canon (mapOf T):=by
 refine ⟨_,rfl, ?_, ?_⟩
 . rw [List.pairwise_map];exact h.imp (fun {a b} hab=>by simpa [Lit.before] using hab)
 intro p hp
 obtain ⟨k,_,rfl⟩:=List.mem_map.1 hp
 trivial
open Go.RowKit Go.Maps
theorem mem_ins (a x:Nat):∀ T:List Nat,x ∈ Hp.Hs.insert a T ↔ x=a \/ x ∈ T
 | []=>by simp [Hp.Hs.insert]
 | y :: r=>by
  unfold Hp.Hs.insert
  split
  . simp
  split
  . rename_i h;subst h;simp
  rw [List.mem_cons,mem_ins a x r,List.mem_cons];constructor
  . rintro (h | h | h) <;> simp [h]
  rintro (h | h | h) <;> simp [h]
theorem sorted_ins (a:Nat):∀ {T:List Nat},T.Pairwise (· < ·)->(Hp.Hs.insert a T).Pairwise (· < ·)
 | [],_=>by simp [Hp.Hs.insert]
 | y :: r,h=>by
  obtain ⟨h1,h2⟩:=List.pairwise_cons.1 h;unfold Hp.Hs.insert
  split
  . rename_i hl;refine List.pairwise_cons.2 ⟨fun q hq=>?_,h⟩
    rcases List.mem_cons.1 hq with rfl | hq
    . exact hl
    exact Nat.lt_trans hl (h1 q hq)
  split
  . exact h
  refine List.pairwise_cons.2 ⟨fun q hq=>?_,sorted_ins a h2⟩
  rcases (mem_ins a q r).1 hq with rfl | hq
  . omega
  exact h1 q hq
theorem hasLit_iff (T:List Nat) (k:Lit):hasLit T k=true ↔ ∃ n:Nat,n ∈ T/\k = .int .i64 n:=by
 constructor
 . intro h;unfold hasLit at h
   split at h
   . rename_i b;simp at h;exact ⟨b.toNat,h.2,by rw [Int.toNat_of_nonneg h.1]⟩
   cases h
 rintro ⟨n,hn,rfl⟩
 simp [hasLit,hn]
theorem hasLit_int (T:List Nat) (n:Nat):hasLit T (.int .i64 n)=T.contains n:=by simp [hasLit]
theorem bool_eq {a b:Bool} (h:a=true ↔ b=true):a=b:=by cases a <;> cases b <;> simp_all
theorem mapOf_put (hs:T.Pairwise (· < ·)) (a:Nat) (hc:Canon ((mapOf T).put (.int .i64 a) (.lit (.bool true)))):(mapOf T).put (.int .i64 a) (.lit (.bool true))=mapOf (Hp.Hs.insert a T):=by
 have key:∀ k,Maps.has ((mapOf T).put (.int .i64 a) (.lit (.bool true))) k=hasLit (Hp.Hs.insert a T) k:=by
  intro k;apply bool_eq;rw [hasLit_iff]
  by_cases e:k = .int .i64 a
  . subst e;rw [has_put_same (D:=mapOf T) (k:=.int .i64 (a:Int)) ⟨_,rfl⟩ (by exact True.intro)];simp only [true_iff];exact ⟨a,(mem_ins a a T).2 (Or.inl rfl),rfl⟩
  rw [has_put_other e,has_mapOf,hasLit_iff];constructor
  . rintro ⟨n,hn,rfl⟩;exact ⟨n,(mem_ins a n T).2 (Or.inr hn),rfl⟩
  rintro ⟨n,hn,rfl⟩
  rcases (mem_ins a n T).1 hn with rfl | hn
  . exact absurd rfl e
  exact ⟨n,hn,rfl⟩
 refine Maps.ext hc (canon_mapOf (sorted_ins a hs)) (fun k=>by rw [key,has_mapOf]) (fun k z hk=>?_)
 rw [key] at hk
 rw [at_mapOf_true hk]
 by_cases e:k = .int .i64 a
 . subst e;exact atKey_put_same (k:=.int .i64 (a:Int)) ⟨_,rfl⟩ (by exact True.intro) _ _
 rw [atKey_put_other e]
 refine at_mapOf_true ?_ z
 rw [hasLit_iff] at hk ⊢
 obtain ⟨n,hn,rfl⟩:=hk
 rcases (mem_ins a n T).1 hn with rfl | hn
 . exact absurd rfl e
 exact ⟨n,hn,rfl⟩
theorem mapOf_del (hs:T.Pairwise (· < ·)) (a:Nat) (hc:Canon ((mapOf T).del (.int .i64 a))):(mapOf T).del (.int .i64 a)=mapOf (T.erase a):=by
 have nd:T.Nodup:=hs.imp (fun h=>Nat.ne_of_lt h)
 have key:∀ k,Maps.has ((mapOf T).del (.int .i64 a)) k=hasLit (T.erase a) k:=by
  intro k;apply bool_eq;rw [hasLit_iff]
  by_cases e:k = .int .i64 a
  . subst e;rw [has_del_same];simp only [Bool.false_eq_true,false_iff];rintro ⟨n,hn,h⟩;have:a=n:=by simp at h;omega
    subst this;exact (nd.mem_erase_iff.1 hn).1 rfl
  rw [has_del_other e,has_mapOf,hasLit_iff];constructor
  . rintro ⟨n,hn,rfl⟩;exact ⟨n,nd.mem_erase_iff.2 ⟨fun h=>e (by rw [h]),hn⟩,rfl⟩
  rintro ⟨n,hn,rfl⟩;exact ⟨n,(nd.mem_erase_iff.1 hn).2,rfl⟩
 refine Maps.ext hc (canon_mapOf (hs.sublist List.erase_sublist)) (fun k=>by rw [key,has_mapOf]) (fun k z hk=>?_)
 rw [key] at hk
 rw [at_mapOf_true hk]
 have e:k ≠ .int .i64 a:=by
  rintro rfl;rw [hasLit_iff] at hk;obtain ⟨n,hn,h⟩:=hk;have:a=n:=by simp at h;omega
  subst this;exact (nd.mem_erase_iff.1 hn).1 rfl
 rw [atKey_del_other e]
 refine at_mapOf_true ?_ z
 rw [hasLit_iff] at hk ⊢
 obtain ⟨n,hn,rfl⟩:=hk
 exact ⟨n,(nd.mem_erase_iff.1 hn).2,rfl⟩
theorem plainElem_bool_inv {P:Program} {e:TypeId} (he:P.underlying e=some .bool) {v:Value} {x:Bool} {ps:List MemPlace} (h:plainElem (H:=Unit) P e v=some (.lit (.bool x),ps)):v = .bool x:=by
 unfold plainElem at h
 rw [he] at h
 cases v <;> simp at h
 rw [h.1]
structure MapAt (P:Program) (w:World) (g:Nat) (T:List Nat):Prop where
 owns:w.ownsMap P 3 (plainElem (H:=Unit) P 4) g T.length (mapOf T)
 sorted:T.Pairwise (· < ·)
namespace MapAt
variable {P:Program} {w w':World} {g:Nat} {T:List Nat}
theorem lt (h:MapAt P w g T):g < w.heap.size:=h.owns.lt
theorem ofBlock (h:MapAt P w g T) (e:w'.heap[g]? = w.heap[g]?):MapAt P w' g T:=by
 refine ⟨?_,h.sorted⟩
 obtain ⟨es,clock,hb,r⟩:=h.owns
 exact ⟨es,clock,e.trans hb,r⟩
theorem but (h:MapAt P w g T) {l:List Nat} (k:But l w w') (hg:g ∉ l):MapAt P w' g T:=h.ofBlock (k.block g h.lt hg)
theorem ext (h:MapAt P w g T) (k:Ext w w'):MapAt P w' g T:=h.ofBlock (k.block g h.lt)
theorem tight (h:w.ownsMap P 3 (plainElem (H:=Unit) P 4) g n (mapOf T)):w.ownsMap P 3 (plainElem (H:=Unit) P 4) g T.length (mapOf T):=by
 obtain ⟨es,clock,hb,F,hs,hD⟩:=h
 refine ⟨es,clock,hb,F, ?_,hD⟩
 have e:=size_mapOf T
 rw [hD] at e
 simp [Maps.size,length_sorted] at e
 omega
variable {t:TypeId}
theorem look (h:MapAt P w g T) (hk:P.underlying 3=some (.int .i64)) (he:P.underlying 4=some .bool) (ht:P.underlying t=some (.map 3 4)) (hz:(zeroValue 4).run P w = .ok (.bool false) w)
    {x:Int} (h1 : -9223372036854775808<=x) (h2:x<=9223372036854775807):(Instr.lookup t (.map (some g)) (.int .i64 x) false).run P w = .ok (.bool (hasLit T (.int .i64 x))) w:=by
  have wf:(Lit.int .i64 x).wf=true:=WalkArith.wf_i64 (by omega);obtain ⟨v,ps,hrun,hv⟩:=h.owns.lookup (int_keyed hk) ht hz (plainElem_bool he false) (keyOf_int_mk hk wf);rw [hrun]
  cases hh:hasLit T (.int .i64 x)
  . rw [at_mapOf_false hh] at hv;rw [plainElem_bool_inv he hv]
  rw [at_mapOf_true hh] at hv;rw [plainElem_bool_inv he hv]
theorem put (h:MapAt P w g T) (hk:P.underlying 3=some (.int .i64)) (he:P.underlying 4=some .bool) (ht:P.underlying t=some (.map 3 4)) (hn:T.length < maxLen) (ha:(a:Int)<=9223372036854775807) :
    ∃ w',(Instr.mapUpdate t (.map (some g)) (.int .i64 a) (.bool true)).run P w = .ok () w'/\MapAt P w' g (Hp.Hs.insert a T)/\w.mapTurned w' g:=by
  have wf:(Lit.int .i64 a).wf=true:=WalkArith.wf_i64 (by omega);obtain ⟨w',hrun,ho,ht'⟩:=h.owns.store (int_keyed hk) ht hn (keyOf_int_mk hk wf) (plainElem_bool he true);refine ⟨w',hrun, ?_,ht'⟩;have hc:=ho.canon (int_keyed hk);rw [mapOf_put h.sorted a hc] at ho;exact ⟨tight ho,sorted_ins a h.sorted⟩
theorem del (h:MapAt P w g T) (hk:P.underlying 3=some (.int .i64)) (ht:P.underlying t=some (.map 3 4)) (ha:(a:Int)<=9223372036854775807) (ty:TypeId) :
    ∃ w',(Builtin.delete_ #[t,3] ty #[.map (some g),.int .i64 a]).run P w = .ok (.tuple #[]) w'/\MapAt P w' g (T.erase a)/\w.mapTurned w' g:=by
  have wf:(Lit.int .i64 a).wf=true:=WalkArith.wf_i64 (by omega);obtain ⟨w',hrun,ho,ht'⟩:=h.owns.drop (int_keyed hk) ht (keyOf_int_mk hk wf) ty;refine ⟨w',hrun, ?_,ht'⟩;have hc:=ho.canon (int_keyed hk);rw [mapOf_del h.sorted a hc] at ho;exact ⟨tight ho,h.sorted.sublist List.erase_sublist⟩
theorem len (h:MapAt P w g T) (ht:P.underlying t=some (.map 3 4)) (ty:TypeId):(Builtin.len_ #[t] ty #[.map (some g)]).run P w = .ok (.int .i64 T.length) w:=by
 rw [h.owns.len ht ty,size_mapOf]
end MapAt
namespace Hp.Hs
variable (S:Hs)
def Kid (a b:Nat):Prop:=∃ ks l,S.kids a=some ks/\adrs ks=some l/\b ∈ l
inductive Reach (R:List Nat):Nat->Prop
 | root {x:Nat}:x ∈ R->Reach R x
 | step {a b:Nat}:Reach R a->S.Kid a b->Reach R b
def Kids (a:Nat):Prop:=∃ ks l,S.kids a=some ks/\adrs ks=some l
variable {S:Hs}
theorem Reach.mono {R R':List Nat} (h:∀ x ∈ R,S.Reach R' x) {x:Nat} (k:S.Reach R x):S.Reach R' x:=by
 induction k with
 | root hx=>exact h _ hx
 | step _ hk ih=>exact .step ih hk
theorem Kid.kids (h:S.Kid a b):S.Kids a:=by
 obtain ⟨ks,l,h1,h2,_⟩:=h
 exact ⟨ks,l,h1,h2⟩
theorem markFrom_spec:∀ (n:Nat) (L st L':List Nat),S.markFrom n L st=some L'->L.Pairwise (· < ·) ->
    L'.Pairwise (· < ·)/\(∀ x ∈ L,x ∈ L')/\(∀ x ∈ st,x ∈ L')/\(∀ x ∈ L',x ∈ L \/ S.Reach st x)/\(∀ x ∈ L',x ∈ L \/ (S.Kids x /\ ∀ b,S.Kid x b->b ∈ L'))
  | n,L,[],L',h,hs=>by
   have:L=L':=by
    unfold markFrom at h
    cases n <;> simpa using h
   subst this;exact ⟨hs,fun _ h=>h,(fun _ h=>by cases h),fun _ h=>.inl h,fun _ h=>.inl h⟩
  | 0,L,a :: r,L',h,hs=>by simp [markFrom] at h
  | n+1,L,a :: r,L',h,hs=>by
   unfold markFrom at h
   by_cases hc:L.contains a=true
   . rw [if_pos hc] at h;obtain ⟨h1,h2,h3,h4,h5⟩:=markFrom_spec n L r L' h hs;refine ⟨h1,h2,fun x hx=>?_,fun x hx=>?_,h5⟩
     . rcases List.mem_cons.1 hx with rfl | hx
       . exact h2 _ (by simpa using hc)
       exact h3 _ hx
     rcases h4 x hx with h | h
     . exact .inl h
     exact .inr (h.mono fun y hy=>.root (by simp [hy]))
   rw [if_neg hc] at h;obtain ⟨ks,hk,h⟩:=Option.bind_eq_some_iff.1 h;obtain ⟨l,hl,h⟩:=Option.bind_eq_some_iff.1 h;obtain ⟨h1,h2,h3,h4,h5⟩:=markFrom_spec n (insert a L) (l ++ r) L' h (sorted_ins a hs);refine ⟨h1,fun x hx=>h2 x ((mem_ins a x L).2 (.inr hx)),fun x hx=>?_,fun x hx=>?_,fun x hx=>?_⟩
   . rcases List.mem_cons.1 hx with rfl | hx
     . exact h2 _ ((mem_ins _ _ L).2 (.inl rfl))
     exact h3 _ (by simp [hx])
   . rcases h4 x hx with h | h
     . rcases (mem_ins a x L).1 h with rfl | h
       . exact .inr (.root (by simp))
       exact .inl h
     refine .inr (h.mono fun y hy=>?_)
     rcases List.mem_append.1 hy with hy | hy
     . exact .step (.root (by simp)) ⟨ks,l,hk,hl,hy⟩
     exact .root (by simp [hy])
   rcases h5 x hx with h | h
   . rcases (mem_ins a x L).1 h with rfl | h
     . refine .inr ⟨⟨ks,l,hk,hl⟩,fun b hb=>?_⟩;obtain ⟨ks',l',h1',h2',hb⟩:=hb;rw [hk] at h1'
       cases h1'
       rw [hl] at h2'
       cases h2'
       exact h3 b (by simp [hb])
     exact .inl h
   exact .inr h
theorem held_spec:∀ {l r:List Nat},S.held l=some r -> ∀ x,x ∈ r ↔ x ∈ l /\ ∃ v,rd S.words (x+2)=some v/\v > 0
 | [],r,h,x=>by simp [held] at h;subst h;simp
 | a :: l,r,h,x=>by
  unfold held at h;obtain ⟨r0,h0,h⟩:=Option.bind_eq_some_iff.1 h;obtain ⟨v,hv,h⟩:=Option.bind_eq_some_iff.1 h;have ih:=held_spec h0 x
  split at h
  . rename_i hp
    cases h
    simp only [List.mem_cons,ih];constructor
    . rintro (rfl | ⟨h1,h2⟩)
      . exact ⟨.inl rfl,v,hv,hp⟩
      exact ⟨.inr h1,h2⟩
    rintro ⟨rfl | h1,h2⟩
    . exact .inl rfl
    exact .inr ⟨h1,h2⟩
  rename_i hp
  cases h
  rw [ih];constructor
  . rintro ⟨h1,h2⟩;exact ⟨by simp [h1],h2⟩
  rintro ⟨h1,v',hv',h2⟩
  rcases List.mem_cons.1 h1 with rfl | h1
  . rw [hv] at hv'
    cases hv'
    exact absurd h2 hp
  exact ⟨h1,v',hv',h2⟩
theorem held_rd:∀ {l r:List Nat},S.held l=some r -> ∀ x ∈ l,∃ v,rd S.words (x+2)=some v
 | [],_,_,x,hx=>by cases hx
 | a :: l,r,h,x,hx=>by
  unfold held at h;obtain ⟨r0,h0,h⟩:=Option.bind_eq_some_iff.1 h;obtain ⟨v,hv,h⟩:=Option.bind_eq_some_iff.1 h
  rcases List.mem_cons.1 hx with rfl | hx
  . exact ⟨v,hv⟩
  exact held_rd h0 x hx
theorem live_spec (h:S.live=some T):∃ R,S.held S.taken=some R/\T.Pairwise (· < ·)/\(∀ x,x ∈ T ↔ S.Reach R x) /\ ∀ x,S.Reach R x->S.Kids x:=by
 obtain ⟨R,hR,h⟩:=Option.bind_eq_some_iff.1 h
 obtain ⟨h1,_,h3,h4,h5⟩:=markFrom_spec _ _ _ _ h List.Pairwise.nil
 have key:∀ x,S.Reach R x->x ∈ T:=by
  intro x hx
  induction hx with
  | root hx=>exact h3 _ hx
  | step _ hk ih=>
   rcases h5 _ ih with h | h
   . cases h
   exact h.2 _ hk
 refine ⟨R,hR,h1,fun x=>⟨fun hx=>?_,key x⟩,fun x hx=>?_⟩
 . rcases h4 x hx with h | h
   . cases h
   exact h
 rcases h5 x (key x hx) with h | h
 . cases h
 exact h.1
theorem sorted_ext:∀ {A B:List Nat},A.Pairwise (· < ·)->B.Pairwise (· < ·)->(∀ x,x ∈ A ↔ x ∈ B)->A=B
 | [],[],_,_,_=>rfl
 | [],b :: B,_,_,h=>by have:=(h b).2 (by simp);cases this
 | a :: A,[],_,_,h=>by have:=(h a).1 (by simp);cases this
 | a :: A,b :: B,ha,hb,h=>by
  obtain ⟨a1,a2⟩:=List.pairwise_cons.1 ha;obtain ⟨b1,b2⟩:=List.pairwise_cons.1 hb;have e:a=b:=by
   have ha:=(h a).1 (by simp);have hb:=(h b).2 (by simp)
   rcases List.mem_cons.1 ha with h1 | h1
   . exact h1
   rcases List.mem_cons.1 hb with h2 | h2
   . exact h2.symm
   have:=a1 b h2;have:=b1 a h1;omega
  subst e;rw [sorted_ext a2 b2 fun x=>?_];constructor
  . intro hx
    rcases List.mem_cons.1 ((h x).1 (by simp [hx])) with rfl | h'
    . exact absurd (a1 x hx) (Nat.lt_irrefl _)
    exact h'
  intro hx
  rcases List.mem_cons.1 ((h x).2 (by simp [hx])) with rfl | h'
  . exact absurd (b1 x hx) (Nat.lt_irrefl _)
  exact h'
end Hp.Hs
namespace Hp
theorem up_nodup (h:T.Pairwise (· < ·)):T.Nodup:=h.imp fun h=>Nat.ne_of_lt h
theorem Cells.sub {f:Nat->Int} {Lv Lv':List Nat} (h:Cells f z o Lv) (hs:∀ a ∈ Lv',a ∈ Lv) (hk:∀ a ∈ Lv',∀ b ∈ Lv,(b:Int) ∈ kz f z a->b ∈ Lv'):Cells f z o Lv' where
 tags a ha:=h.tags a (hs a ha)
 ends a ha:=h.ends a (hs a ha)
 kids a ha x hx:=by
  obtain ⟨b,hb,rfl,hr⟩:=h.kids a (hs a ha) x hx;exact ⟨b,hk a ha b hb hx,rfl,hr⟩
 flat a ha:=h.flat a (hs a ha)
 one a ha b hb:=h.one a (hs a ha) b (hs b hb)
theorem Wf.live_ {ch:Nat->List Nat} (h:Wf S B L ch):∃ T,S.live=some T/\T.Pairwise (· < ·)/\(∀ a ∈ T,a ∈ S.taken)/\(∀ a ∈ S.taken,0 < ow S.words (a+2)->a ∈ T)/\(∀ a ∈ T,∀ b:Nat,(b:Int) ∈ kz (ow S.words) S.sizes a->b ∈ T) /\
    ∀ X:List Nat,(∀ a ∈ S.taken,0 < ow S.words (a+2)->a ∈ X)->(∀ a ∈ X,∀ b:Nat,(b:Int) ∈ kz (ow S.words) S.sizes a->b ∈ X) -> ∀ a ∈ T,a ∈ X:=by
  obtain ⟨T,hT⟩:=live_total h;obtain ⟨R,hR,h1,h2,h3⟩:=Hs.live_spec hT;have hr:=Hs.held_spec hR;have root:∀ x,x ∈ R ↔ x ∈ S.taken/\0 < ow S.words (x+2):=fun x=>by
   rw [hr x];constructor
   . rintro ⟨k1,v,k2,k3⟩;refine ⟨k1, ?_⟩;rw [(ow_rd k2).1];exact k3
   rintro ⟨k1,k2⟩;exact ⟨k1,_,rd_ow (by have:=h.part k1;omega),k2⟩
  have kid:∀ a ∈ S.taken,∀ b,S.Kid a b ↔ (b:Int) ∈ kz (ow S.words) S.sizes a:=fun a ha b=>by
   obtain ⟨r,q1,q2,q3⟩:=adrs_of (l:=kz (ow S.words) S.sizes a) fun x hx=>by
    obtain ⟨b,_,e,_⟩:=h.cells.kids a ha x hx;exact ⟨b,e⟩
   constructor
   . rintro ⟨ks,l,e1,e2,hb⟩;rw [h.kids_ ha] at e1
     cases e1
     rw [q1] at e2
     cases e2
     exact (q3 b).1 hb
   intro hb;exact ⟨_,r,h.kids_ ha,q1,(q3 b).2 hb⟩
  have inT:∀ a,S.Reach R a->a ∈ S.taken:=fun a ha=>by
   induction ha with
   | root hx=>exact ((root _).1 hx).1
   | step _ hk ih=>
    obtain ⟨b,hb,e,_⟩:=h.cells.kids _ ih _ ((kid _ ih _).1 hk);rw [show _=b from Int.ofNat.inj e];exact hb
  refine ⟨T,hT,h1,fun a ha=>inT a ((h2 a).1 ha),fun a ha hp=>(h2 a).2 (.root ((root a).2 ⟨ha,hp⟩)),fun a ha b hb=>?_,fun X x1 x2 a ha=>?_⟩
  . have ha':=(h2 a).1 ha;exact (h2 b).2 (.step ha' ((kid a (inT a ha') b).2 hb))
  have ha':=(h2 a).1 ha;clear ha
  induction ha' with
  | root hx=>exact x1 _ ((root _).1 hx).1 ((root _).1 hx).2
  | step hk0 hk ih=>exact x2 _ ih _ ((kid _ (inT _ hk0) _).1 hk)
end Hp
open Go.RowKit Go.Maps
def mapOfI (M:List (Nat × Int)):DataW Unit:=.map (M.map fun p:Nat × Int=>(Lit.int .i64 (p.1:Int),DataW.lit (.int .i64 p.2)))
def getI (k:Nat):List (Nat × Int)->Option Int
 | []=>none
 | (a,v) :: r=>if a=k then some v else getI k r
def putI (k:Nat) (x:Int):List (Nat × Int)->List (Nat × Int)
 | []=>[(k,x)]
 | (a,v) :: r=>if k < a then (k,x) :: (a,v) :: r else if k=a then (k,x) :: r else (a,v) :: putI k x r
def KeysUp (M:List (Nat × Int)):Prop:=M.Pairwise fun p q=>p.1 < q.1
theorem getI_put {j k:Nat} {x:Int}:∀ {M:List (Nat × Int)},KeysUp M->getI j (putI k x M)=if j=k then some x else getI j M
 | [],_=>by
  unfold putI getI
  by_cases h:j=k
  . subst h;simp
  rw [if_neg (fun e=>h e.symm),if_neg h];rfl
 | (a,v) :: r,h=>by
  obtain ⟨h1,h2⟩:=List.pairwise_cons.1 h;unfold putI
  split
  . rename_i hlt
    by_cases hj:j=k
    . subst hj;simp [getI]
    simp only [getI,if_neg hj,if_neg (fun e=>hj (Eq.symm e):¬ k=j)]
  rename_i hlt
  split
  . rename_i he;subst he
    by_cases hj:j=k
    . subst hj;simp [getI]
    simp only [getI,if_neg hj,if_neg (fun e=>hj (Eq.symm e):¬ k=j)]
  rename_i hne;simp only [getI];rw [getI_put h2]
  by_cases hj:j=k
  . subst hj;rw [if_neg (fun e=>hne (Eq.symm e):¬ a=j),if_pos rfl];simp
  rw [if_neg hj,if_neg hj]
theorem keys_put {k:Nat} {x:Int}:∀ {M:List (Nat × Int)} {p:Nat × Int},p ∈ putI k x M->p.1=k \/ ∃ q ∈ M,q.1=p.1
 | [],p,h=>by
  have:p=(k,x):=by simpa [putI] using h
  subst this;exact .inl rfl
 | (a,v) :: r,p,h=>by
  unfold putI at h
  split at h
  . rcases List.mem_cons.1 h with rfl | h
    . exact .inl rfl
    exact .inr ⟨p,h,rfl⟩
  split at h
  . rcases List.mem_cons.1 h with rfl | h
    . exact .inl rfl
    exact .inr ⟨p,by simp [h],rfl⟩
  rcases List.mem_cons.1 h with rfl | h
  . exact .inr ⟨(a,v),by simp,rfl⟩
  rcases keys_put h with h | ⟨q,hq,e⟩
  . exact .inl h
  exact .inr ⟨q,by simp [hq],e⟩
theorem keysUp_put {k:Nat} {x:Int}:∀ {M:List (Nat × Int)},KeysUp M->KeysUp (putI k x M)
 | [],_=>by simp [putI,KeysUp]
 | (a,v) :: r,h=>by
  obtain ⟨h1,h2⟩:=List.pairwise_cons.1 h;unfold putI
  split
  . rename_i hlt;refine List.pairwise_cons.2 ⟨fun q hq=>?_,h⟩
    rcases List.mem_cons.1 hq with rfl | hq
    . exact hlt
    exact Nat.lt_trans hlt (h1 q hq)
  split
  . rename_i he;subst he;exact List.pairwise_cons.2 ⟨fun q hq=>h1 q hq,h2⟩
  rename_i hlt hne;refine List.pairwise_cons.2 ⟨fun q hq=>?_,keysUp_put h2⟩
  rcases keys_put hq with e | ⟨q',hq',e⟩
  . simp only [e];omega
  have:=h1 q' hq';simp only at this ⊢;omega
theorem getI_mem {k:Nat} {v:Int}:∀ {M:List (Nat × Int)},getI k M=some v -> ∃ p ∈ M,p.1=k
 | [],h=>by cases h
 | (a,u) :: r,h=>by
  unfold getI at h
  split at h
  . rename_i e;exact ⟨(a,u),by simp,e⟩
  obtain ⟨p,hp,e⟩:=getI_mem h;exact ⟨p,by simp [hp],e⟩
theorem canon_mapOfI (h:KeysUp M):Maps.Canon (mapOfI M):=by
 refine ⟨_,rfl, ?_, ?_⟩
 . rw [List.pairwise_map];exact h.imp (fun {a b} hab=>by simpa [Lit.before] using hab)
 intro p hp
 obtain ⟨k,_,rfl⟩:=List.mem_map.1 hp
 trivial
theorem size_mapOfI (M:List (Nat × Int)):Maps.size (mapOfI M)=M.length:=by simp [mapOfI,Maps.size_eq]
theorem at_mapOfI (M:List (Nat × Int)) (k:Nat) (z:DataW Unit):(mapOfI M).atKey (.int .i64 k) z=(match getI k M with | some v=>.lit (.int .i64 v) | none=>z):=by
 unfold mapOfI DataW.atKey
 simp only
 induction M with
 | nil=>rfl
 | cons p r ih=>
  obtain ⟨a,v⟩:=p;rw [List.map_cons,List.find?_cons]
  by_cases e:a=k
  . subst e;simp [Lit.sameKey,getI]
  have hs:(Lit.int .i64 (a:Int)).sameKey (.int .i64 k)=false:=by
   simp [Lit.sameKey];omega
  simp only [hs,getI,if_neg e];exact ih
theorem has_mapOfI (M:List (Nat × Int)) (k:Lit):Maps.has (mapOfI M) k=true ↔ ∃ n:Nat,k = .int .i64 n/\(getI n M).isSome=true:=by
 unfold mapOfI
 rw [has_eq,List.any_eq_true]
 constructor
 . rintro ⟨q,hq,hk⟩;obtain ⟨p,hp,rfl⟩:=List.mem_map.1 hq
   cases k
   case int q b=>
    cases q <;> simp [Lit.sameKey] at hk
    subst hk;refine ⟨p.1,rfl, ?_⟩;clear hq
    induction M with
    | nil=>cases hp
    | cons m r ih=>
     obtain ⟨a,v⟩:=m;unfold getI
     by_cases e:a=p.1
     . rw [if_pos e];rfl
     rw [if_neg e]
     rcases List.mem_cons.1 hp with rfl | hp
     . exact absurd rfl e
     exact ih hp
   all_goals simp [Lit.sameKey] at hk
 rintro ⟨n,rfl,hs⟩
 obtain ⟨v,hv⟩:=Option.isSome_iff_exists.1 hs
 obtain ⟨p,hp,rfl⟩:=getI_mem hv
 exact ⟨_,List.mem_map.2 ⟨p,hp,rfl⟩,by simp [Lit.sameKey]⟩
theorem mapOfI_put (hs:KeysUp M) (a:Nat) (x:Int) (hc:Canon ((mapOfI M).put (.int .i64 a) (.lit (.int .i64 x)))):(mapOfI M).put (.int .i64 a) (.lit (.int .i64 x))=mapOfI (putI a x M):=by
 have key:∀ k,Maps.has ((mapOfI M).put (.int .i64 a) (.lit (.int .i64 x))) k=Maps.has (mapOfI (putI a x M)) k:=by
  intro k;apply bool_eq;rw [has_mapOfI]
  by_cases e:k = .int .i64 a
  . subst e;rw [has_put_same (D:=mapOfI M) (k:=.int .i64 (a:Int)) ⟨_,rfl⟩ (by exact True.intro)];simp only [true_iff];exact ⟨a,rfl,by rw [getI_put hs,if_pos rfl];rfl⟩
  rw [has_put_other e,has_mapOfI];constructor
  . rintro ⟨n,rfl,hn⟩;exact ⟨n,rfl,by rw [getI_put hs,if_neg (fun h=>e (by rw [h]))];exact hn⟩
  rintro ⟨n,rfl,hn⟩;rw [getI_put hs,if_neg (fun h=>e (by rw [h]))] at hn;exact ⟨n,rfl,hn⟩
 refine Maps.ext hc (canon_mapOfI (keysUp_put hs)) key (fun k z hk=>?_)
 rw [key,has_mapOfI] at hk
 obtain ⟨n,rfl,hn⟩:=hk
 rw [at_mapOfI,getI_put hs]
 by_cases e:n=a
 . subst e;rw [if_pos rfl];exact atKey_put_same (k:=.int .i64 (n:Int)) ⟨_,rfl⟩ (by exact True.intro) _ _
 rw [if_neg e,atKey_put_other (fun h=>e (by cases h;rfl)),at_mapOfI]
structure MapIAt (P:Program) (w:World) (g:Nat) (M:List (Nat × Int)):Prop where
 owns:w.ownsMap P 3 (plainElem (H:=Unit) P 3) g M.length (mapOfI M)
 up:KeysUp M
namespace MapIAt
variable {P:Program} {w w':World} {g:Nat} {M:List (Nat × Int)} {t:TypeId}
theorem lt (h:MapIAt P w g M):g < w.heap.size:=h.owns.lt
theorem ofBlock (h:MapIAt P w g M) (e:w'.heap[g]? = w.heap[g]?):MapIAt P w' g M:=by
 refine ⟨?_,h.up⟩
 obtain ⟨es,clock,hb,r⟩:=h.owns
 exact ⟨es,clock,e.trans hb,r⟩
theorem but (h:MapIAt P w g M) {l:List Nat} (k:But l w w') (hg:g ∉ l):MapIAt P w' g M:=h.ofBlock (k.block g h.lt hg)
theorem ext (h:MapIAt P w g M) (k:Ext w w'):MapIAt P w' g M:=h.ofBlock (k.block g h.lt)
theorem made (w:World):MapIAt P (w.alloc (.map #[] 0)) w.heap.size []:=
 ⟨by simpa [mapOfI] using World.ownsMap_made w P 3 (plainElem (H:=Unit) P 3),List.Pairwise.nil⟩
theorem tight (h:w.ownsMap P 3 (plainElem (H:=Unit) P 3) g n (mapOfI M)):w.ownsMap P 3 (plainElem (H:=Unit) P 3) g M.length (mapOfI M):=by
 obtain ⟨es,clock,hb,F,hs,hD⟩:=h
 refine ⟨es,clock,hb,F, ?_,hD⟩
 have e:=size_mapOfI M
 rw [hD] at e
 simp [Maps.size,length_sorted] at e
 omega
theorem look (h:MapIAt P w g M) (hk:P.underlying 3=some (.int .i64)) (ht:P.underlying t=some (.map 3 3)) (hz:(zeroValue 3).run P w = .ok (.int .i64 0) w) (hk2:(k:Int)<=9223372036854775807) :
    (Instr.lookup t (.map (some g)) (.int .i64 k) false).run P w = .ok (.int .i64 ((getI k M).getD 0)) w:=by
  have wf:(Lit.int .i64 k).wf=true:=WalkArith.wf_i64 (by omega);obtain ⟨c,hrun,hat,_⟩:=h.owns.lookup_int (int_keyed hk) ht hk hz (keyOf_int_mk hk wf);rw [hrun];rw [at_mapOfI] at hat
  cases hg:getI k M with
  | none=>
   rw [hg] at hat;simp only at hat;injection hat with hat
   injection hat with _ hat
   rw [<- hat];rfl
  | some v=>
   rw [hg] at hat;simp only at hat;injection hat with hat
   injection hat with _ hat
   rw [<- hat];rfl
theorem put (h:MapIAt P w g M) (hk:P.underlying 3=some (.int .i64)) (ht:P.underlying t=some (.map 3 3)) (hn:M.length < maxLen) (ha:(a:Int)<=9223372036854775807) (hx1 : -9223372036854775808<=x) (hx2:x<=9223372036854775807) :
    ∃ w',(Instr.mapUpdate t (.map (some g)) (.int .i64 a) (.int .i64 x)).run P w = .ok () w'/\MapIAt P w' g (putI a x M)/\w.mapTurned w' g:=by
  have wf:(Lit.int .i64 a).wf=true:=WalkArith.wf_i64 (by omega);have wfx:(Lit.int .i64 x).wf=true:=WalkArith.wf_i64 (by omega);obtain ⟨w',hrun,ho,ht'⟩:=h.owns.store (int_keyed hk) ht hn (keyOf_int_mk hk wf) (plainElem_int hk wfx);refine ⟨w',hrun, ?_,ht'⟩;have hc:=ho.canon (int_keyed hk);rw [mapOfI_put h.up a x hc] at ho;exact ⟨tight ho,keysUp_put h.up⟩
end MapIAt
namespace Hp.Hs
def moves (S:Hs):List Nat->List Int->Nat->List (Nat × Int)->Option (List Int × Nat × List (Nat × Int))
 | [],W,next,M=>some (W,next,M)
 | a :: r,W,next,M=>do
  let wide <- S.wideAt a
  let W <- lay W next (<- sub S.words a wide)
  moves S r W (next+wide) (putI a (next:Int) M)
def rekid (S:Hs) (M:List (Nat × Int)) (tt:Nat):Nat->Nat->List Int->Option (List Int)
 | 0,_,W=>some W
 | n+1,j,W=>do
  let k <- ra W (tt+4+j)
  let ks <- Hs.kids { S with words:=W } tt
  if j < ks.length then rekid S M tt n (j+1) (<- wr W (tt+4+j) ((getI k M).getD 0)) else none
def rechain (M:List (Nat × Int)):Hs->List Nat->Option Hs
 | S,[]=>some S
 | S,a :: r=>do
  let tt <- adr ((getI a M).getD 0)
  if S.words.length<=tt then none else
  let S:={ S with taken:=insert tt S.taken }
  let W <- rekid S M tt (<- S.kids tt).length 0 S.words
  let S:={ S with words:=W }
  let head <- chain (<- S.tag tt) (<- S.fields tt)
  let x <- rd S.words head
  let W <- wr (<- wr S.words (tt+3) x) head tt
  rechain M { S with words:=W } r
def moved (S:Hs):Option (List (Nat × Int) × Hs):=do
 let (W,next,M) <- moves S S.taken (List.replicate S.words.length 0) 17 []
 let S1 <- rechain M { S with words:=W,taken:=[] } S.taken
 if next < W.length then
  return (M,{ S1 with words:=(<- wr (<- wr S1.words 16 next) (next+1) (W.length-next)) })
 else some (M,S1)
end Hp.Hs
namespace Hp
def to' (m:Nat->Nat) (x:Int):Int:=((m x.toNat:Nat):Int)
def nz (f:Nat->Int) (z:List Int) (m:Nat->Nat) (a:Nat):List Int:=if isEnd (f a) then fz f z a else (fz f z a).map (to' m)
end Hp
namespace Hp
theorem insert_last {x:Nat}:∀ {T:List Nat},(∀ y ∈ T,y < x)->Hs.insert x T=T ++ [x]
 | [],_=>rfl
 | y :: r,h=>by
  have:=h y (by simp);unfold Hs.insert;rw [if_neg (by omega),if_neg (by omega),insert_last fun z hz=>h z (by simp [hz])];rfl
section
variable {S:Hs} {B:Nat} {L:List Tl} {ch:Nat->List Nat}
structure Mv (S:Hs) (m:Nat->Nat) (next:Nat) (d r:List Nat) (W:List Int) (cc:Nat->List Nat):Prop where
 len:W.length=S.words.length
 raw:∀ b ∈ r,∀ i,i < wz S.sizes (ow S.words b)->ow W (m b+i)=ow S.words (b+i)
 done:∀ b ∈ d,ow W (m b)=ow S.words b/\ow W (m b+1)=ow S.words (b+1)/\ow W (m b+2)=ow S.words (b+2)/\fz (ow W) S.sizes (m b)=nz (ow S.words) S.sizes m b
 path:∀ c,c < 16->Path (ow W) c (cc c)
 nd:∀ c,c < 16->(cc c).Nodup
 mem:∀ c,c < 16 -> ∀ x,x ∈ cc c ↔ ∃ b ∈ d,x=m b/\cz (ow S.words b) (nz (ow S.words) S.sizes m b)=c
 rest:∀ j,j=16 \/ next<=j->ow W j=0
def ccOf (S:Hs) (m:Nat->Nat):List Nat->(Nat->List Nat)->Nat->List Nat
 | [],cc=>cc
 | a :: r,cc=>ccOf S m r (fun c'=>if c'=cz (ow S.words a) (nz (ow S.words) S.sizes m a) then m a :: cc c' else cc c')
end
end Hp
namespace Hp
theorem ow_rep (n j:Nat):ow (List.replicate n (0:Int)) j=0:=by
 unfold ow
 rw [List.getD_eq_getElem?_getD,List.getElem?_replicate]
 split <;> rfl
end Hp
namespace Hp
def bef:Nat->List Tl->Nat->Nat
 | l,[],_=>l
 | l,_ :: _,0=>l
 | _,t :: r,i+1=>bef (t.a+2) r i
theorem bef_zero (l:Nat) (F:List Tl):bef l F 0=l:=by cases F <;> rfl
theorem bef_succ:∀ {l:Nat} {F:List Tl} {i:Nat} {t:Tl},F[i]? = some t->bef l F (i+1)=t.a+2
 | _,[],_,_,h=>by simp at h
 | l,u :: r,0,t,h=>by
  have:u=t:=by simpa using h
  subst this;show bef (u.a+2) r 0=_;exact bef_zero _ _
 | l,u :: r,i+1,t,h=>by
  show bef (u.a+2) r (i+1)=_;exact bef_succ (by simpa using h)
def freeOf (L:List Tl):List Tl:=L.filter fun t=>t.fr
theorem mem_freeOf {t:Tl}:t ∈ freeOf L ↔ t ∈ L/\t.fr=true:=by simp [freeOf]
theorem links_free {f:Nat->Int}:∀ {l:Nat} {L:List Tl},Links f l L 0->(∀ i t,(freeOf L)[i]? = some t->f (bef l (freeOf L) i)=(t.a:Int))/\f (bef l (freeOf L) (freeOf L).length)=0
 | l,[],h=>⟨by simp [freeOf],h⟩
 | l,t :: r,h=>by
  unfold Links at h
  cases hf:t.fr with
  | false=>
   rw [hf] at h;have e:freeOf (t :: r)=freeOf r:=by simp [freeOf,hf]
   rw [e];exact links_free (by simpa using h)
  | true=>
   rw [hf] at h;simp only [if_true] at h;have e:freeOf (t :: r)=t :: freeOf r:=by simp [freeOf,hf]
   obtain ⟨h1,h2⟩:=links_free h.2;rw [e];refine ⟨fun i u hu=>?_,h2⟩
   cases i with
   | zero=>
    have:t=u:=by simpa using hu
    subst this;exact h.1
   | succ i=>exact h1 i u (by simpa using hu)
theorem free_far:∀ {s n:Nat} {L:List Tl},Lay s L n->Sep L->(freeOf L).Pairwise fun t u=>t.a+t.k < u.a
 | _,_,[],_,_=>List.Pairwise.nil
 | s,n,t :: r,h,hs=>by
  obtain ⟨h1,h2,h3⟩:=h;have ih:=free_far h3 hs.tail
  cases hf:t.fr with
  | false=>
   have e:freeOf (t :: r)=freeOf r:=by simp [freeOf,hf]
   rw [e];exact ih
  | true=>
   have e:freeOf (t :: r)=t :: freeOf r:=by simp [freeOf,hf]
   rw [e];refine List.pairwise_cons.2 ⟨fun u hu=>?_,ih⟩;obtain ⟨hu1,hu2⟩:=mem_freeOf.1 hu
   cases r with
   | nil=>cases hu1
   | cons v r=>
    obtain ⟨q1,q2,q3⟩:=h3
    rcases List.mem_cons.1 hu1 with rfl | hu1
    . exact absurd ⟨hf,hu2⟩ hs.1
    have:=q3.mem hu1;omega
structure Frees (f:Nat->Int) (n:Nat) (F:List Tl):Prop where
 link:∀ i t,F[i]? = some t->f (bef 16 F i)=(t.a:Int)
 last:f (bef 16 F F.length)=0
 part:∀ t ∈ F,17<=t.a/\3<=t.k/\t.a+t.k<=n/\f t.a=0/\f (t.a+1)=t.k /\ ∀ j,t.a+3<=j->j < t.a+t.k->f j=0
 far:∀ i t u,F[i]? = some t->F[i+1]? = some u->t.a+t.k < u.a
theorem Parts.frees {f:Nat->Int} (h:Parts f z L n):Frees f n (freeOf L) where
 link:=(links_free h.links).1
 last:=(links_free h.links).2
 part t ht:=by
  obtain ⟨h1,h2⟩:=mem_freeOf.1 ht;have:=h.lay.mem h1;have:=(h.ok t h1).free h2;exact ⟨by omega,by omega,by omega,this.1,this.2.1,this.2.2⟩
 far i t u h1 h2:=by
  have hp:=free_far h.lay h.sep;rw [List.pairwise_iff_getElem] at hp;obtain ⟨l1,e1⟩:=List.getElem?_eq_some_iff.1 h1;obtain ⟨l2,e2⟩:=List.getElem?_eq_some_iff.1 h2;have:=hp i (i+1) l1 l2 (by omega);rw [e1,e2] at this;exact this
end Hp
namespace Hp
def allCh (ch:Nat->List Nat):Nat->List Nat
 | 0=>[]
 | c+1=>allCh ch c ++ ch c
theorem mem_allCh {ch:Nat->List Nat} {a:Nat}:∀ {k:Nat},a ∈ allCh ch k ↔ ∃ c,c < k/\a ∈ ch c
 | 0=>by simp [allCh]
 | k+1=>by
  unfold allCh;rw [List.mem_append,mem_allCh];constructor
  . rintro (⟨c,h1,h2⟩ | h)
    . exact ⟨c,by omega,h2⟩
    exact ⟨k,by omega,h⟩
  rintro ⟨c,h1,h2⟩
  by_cases e:c=k
  . subst e;exact .inr h2
  exact .inl ⟨c,by omega,h2⟩
theorem allCh_nodup {f:Nat->Int} {z:List Int} {Lv:List Nat} {ch:Nat->List Nat} (h:Chains f z Lv ch):∀ {k:Nat},k<=16->(allCh ch k).Nodup
 | 0,_=>List.Pairwise.nil
 | k+1,hk=>by
  unfold allCh;refine List.nodup_append.2 ⟨allCh_nodup h (by omega),h.nodup k (by omega),fun a ha b hb e=>?_⟩;subst e;obtain ⟨c,h1,h2⟩:=mem_allCh.1 ha;have e1:=((h.mem c (by omega) a).1 h2).2;have e2:=((h.mem k (by omega) a).1 hb).2;omega
theorem allCh_sub {f:Nat->Int} {Lv:List Nat} {ch:Nat->List Nat} (h:Chains f z Lv ch) (hk:k<=16):∀ a ∈ allCh ch k,a ∈ Lv:=fun a ha=>by
 obtain ⟨c,h1,h2⟩:=mem_allCh.1 ha
 exact ((h.mem c (by omega) a).1 h2).1
theorem allCh_all {f:Nat->Int} {Lv:List Nat} {ch:Nat->List Nat} (h:Chains f z Lv ch) (hn:Lv.Nodup):(allCh ch 16).length=Lv.length:=by
 have h1:=nodup_len (allCh_nodup h (Nat.le_refl 16)) (allCh_sub h (Nat.le_refl 16))
 have h2:=nodup_len hn (m:=allCh ch 16) fun a ha=>mem_allCh.2 ⟨_,cz_lt _ _,(h.mem _ (cz_lt _ _) a).2 ⟨ha,rfl⟩⟩
 omega
def PathV (f:Nat->Int):Int->List Nat->Prop
 | x,[]=>x=0
 | x,a :: r=>x=(a:Int)/\a ≠ 0/\PathV f (f (a+3)) r
theorem Path.v {f:Nat->Int}:∀ {l:Nat} {r:List Nat},Path f l r->PathV f (f l) r
 | _,[],h=>h
 | _,_ :: _,h=>⟨h.1,h.2.1,Path.v h.2.2⟩
end Hp
open Go.RowKit
theorem within_any (a b n:Int) (w:World):Calls Tryz.prog 105 #[.int .i64 a,.int .i64 b,.int .i64 n] w fun e w'=>e = .returned (.bool (Hp.within a b n))/\Ext w w':=by
 by_cases h1:a<=n
 . by_cases h2:n<=b
   . have e:Hp.within a b n=true:=by simp [Hp.within,h1,h2]
     rw [e];clear e;go_enter Tryz.func105,Tryz.ntmps105;go_wp2
     all_goals go_returns
     exact ⟨rfl,exx⟩
   have e:Hp.within a b n=false:=by simp [Hp.within,h2]
   rw [e];clear e;go_enter Tryz.func105,Tryz.ntmps105;go_wp2
   all_goals go_returns
   exact ⟨rfl,exx⟩
 have e:Hp.within a b n=false:=by simp [Hp.within,h1]
 rw [e]
 clear e
 go_enter Tryz.func105,Tryz.ntmps105
 go_wp2
 all_goals go_returns
 exact ⟨rfl,exx⟩
theorem isEnd_any (t:Int) (w:World):Calls Tryz.prog 78 #[.int .i64 t] w fun e w'=>e = .returned (.bool (Hp.isEnd t))/\Ext w w':=by
 go_enter Tryz.func78,Tryz.ntmps78
 go_wp2_with (go_at_call 105;refine (within_any 20 24 t _).mono ?_;rintro e x ⟨rfl,y⟩)
 go_returns
 exact ⟨rfl,y⟩
theorem isEnd_is {b:Bool} (h:Hp.isEnd t=b) (w:World):Calls Tryz.prog 78 #[.int .i64 t] w fun e w'=>e = .returned (.bool b)/\Ext w w':=by
 subst h
 exact isEnd_any t w
theorem tag_any {hb gw:Nat} (c2:w.cell? ⟨hb,2,none⟩=some (.slice (some ⟨gw,0,none⟩) n cap)) (hn:n=W.length) (hc:n<=cap) (hb':cap<=9223372036854775807) (hW:WordsAt w gw W) (hx:Hp.rd W a=some x) :
    Calls Tryz.prog 76 #[.pointer (some ⟨hb,0,none⟩),.int .i64 a] w fun e w'=>e = .returned (.int .i64 x)/\Ext w w':=by
  have g:=hW.get hx;have ha:a < n:=by
   unfold Hp.rd at hx;have:=(List.getElem?_eq_some_iff.1 hx).1;omega
  clear hW hx hn;go_enter Tryz.func76,Tryz.ntmps76;go_wp2;go_returns;exact ⟨rfl,exx⟩
structure SliceAt (w:World) (p:Option Addr) (c:Nat) (l:List Int):Prop where
 le:l.length<=c
 cap:c<=9223372036854775807
 wf:∀ x ∈ l,-9223372036854775808<=x/\x<=9223372036854775807
 cells:0 < l.length -> ∃ b o,p=some ⟨b,o,none⟩/\b < w.heap.size /\ ∀ j x,Hp.rd l j=some x->w.cell? ⟨b,o+j,none⟩=some (.int .i64 x)
theorem rd_lt (h:Hp.rd l j=some x):j < l.length:=by
 unfold Hp.rd at h
 exact (List.getElem?_eq_some_iff.1 h).1
theorem adr_some (h:Hp.adr x=some n):x=n:=by
 unfold Hp.adr at h
 split at h
 . cases h;omega
 cases h
theorem ra_some (h:Hp.ra l i=some n):Hp.rd l i=some (n:Int):=by
 unfold Hp.ra at h
 obtain ⟨x,hx,h⟩:=Option.bind_eq_some_iff.1 h
 rw [hx,adr_some h]
theorem wide_some {sizes:List Int} (h:Hp.wide sizes t=some k):(Hp.isEnd t=true/\k=5) \/ (Hp.isEnd t=false /\ ∃ i s:Nat,t=(i:Int)+1/\Hp.rd sizes i=some (s:Int)/\k=4+s):=by
 unfold Hp.wide at h
 cases he:Hp.isEnd t
 . right;rw [he] at h;simp only [Bool.false_eq_true,if_false] at h;obtain ⟨i,hi,h⟩:=Option.bind_eq_some_iff.1 h;obtain ⟨s,hs,h⟩:=Option.bind_eq_some_iff.1 h;have hi:=adr_some hi;exact ⟨rfl,i,s,by omega,ra_some hs,by simpa using h.symm⟩
 left
 rw [he] at h
 simpa using h.symm
theorem isNode_any (p q:Option Addr) (n c m d:Nat) (t:Int) (w:World):Calls Tryz.prog 122 #[.agg #[.slice p n c,.slice q m d],.int .i64 t] w fun e w'=>e = .returned (.bool (Hp.within 1 n t))/\Ext w w':=by
 go_enter Tryz.func122,Tryz.ntmps122
 go_wp2_with (go_at_call 105;refine (within_any 1 n t _).mono ?_;rintro e x ⟨rfl,y⟩)
 go_returns
 exact ⟨rfl,exx⟩
theorem wide_any {d:Nat} {sizes:List Int} (hS:SliceAt w p c sizes) (hk:Hp.wide sizes t=some k) (hb:k<=9223372036854775807) :
    Calls Tryz.prog 123 #[.agg #[.slice p sizes.length c,.slice q m d],.int .i64 t] w fun e w'=>e = .returned (.int .i64 k)/\Ext w w':=by
  rcases wide_some hk with ⟨he,rfl⟩ | ⟨he,i,s,rfl,hs,rfl⟩
  . clear hS hk;go_enter Tryz.func123,Tryz.ntmps123
    go_wp2_with (go_at_call 78;refine (isEnd_is he _).mono ?_;rintro e x ⟨rfl,y⟩)
    refine bodyPost_ret (v:=.int .i64 5) (by simp [results,Tryz.results123,go_sem, *]) rfl ⟨rfl,exx⟩
  have hi:=rd_lt hs;obtain ⟨b,o,rfl,hlt,hc⟩:=hS.cells (by omega);have g:=hc i s hs;have h1:=hS.le;have h2:=hS.cap;clear hS hc hk hs;generalize sizes.length=n at *;go_enter Tryz.func123,Tryz.ntmps123
  go_wp2_with (go_at_call 78;refine (isEnd_is he _).mono ?_;rintro e w1 ⟨rfl,hb1⟩;obtain ⟨hc1,hf1,hs1⟩:=hb1.cells;have hz1_0:w.heap.size < w1.heap.size:=(by have h:=hb1.le;(try simp at h);omega);have hc1_0:=hb1.cell (b:=w.heap.size) (by first | omega | (simp;done) | (simp;omega));have hf1_0:=hb1.frozen (b:=w.heap.size) (by first | omega | (simp;done) | (simp;omega));have y0:Ext w w1:=exx;have g':=(y0.cell hlt (o+i)).trans g)
  refine bodyPost_ret (v:=.int .i64 (4+s:Nat)) (by simp [results,Tryz.results123,go_sem, *]) rfl ⟨rfl,exx⟩
structure Hd where
 hb:Nat
 gw:Nat
 gm:Nat
 cap:Nat
 sp:Option Addr
 sc:Nat
 op:Option Addr
 oc:Nat
def Hd.own (d:Hd):List Nat:=[d.hb,d.gw,d.gm]
theorem cell_lt {o:Nat} {v:Value} (h:w.cell? ⟨b,o,none⟩=some v):b < w.heap.size:=by
 rcases Nat.lt_or_ge b w.heap.size with h' | h'
 . exact h'
 simp [World.cell?,Array.getElem?_eq_none h'] at h
namespace SliceAt
variable {w w':World} {p:Option Addr} {c:Nat} {l:List Int}
theorem but (h:SliceAt w p c l) {bs:List Nat} (k:But bs w w') (hf:∀ b o,p=some ⟨b,o,none⟩->b ∉ bs):SliceAt w' p c l:=by
 refine ⟨h.le,h.cap,h.wf,fun h0=>?_⟩
 obtain ⟨b,o,rfl,hb,hc⟩:=h.cells h0
 exact ⟨b,o,rfl,Nat.lt_of_lt_of_le hb k.size,fun j x hx=>(k.cell hb (hf b o rfl) _).trans (hc j x hx)⟩
theorem ext (h:SliceAt w p c l) (k:Ext w w'):SliceAt w' p c l:=h.but (But.ofExt (l:=[]) k) (by simp)
end SliceAt
structure HAt (w:World) (d:Hd) (S:Hp.Hs):Prop where
 c0:w.cell? ⟨d.hb,0,none⟩=some (.slice d.sp S.sizes.length d.sc)
 c1:w.cell? ⟨d.hb,1,none⟩=some (.slice d.op S.order.length d.oc)
 c2:w.cell? ⟨d.hb,2,none⟩=some (.slice (some ⟨d.gw,0,none⟩) S.words.length d.cap)
 c3:w.cell? ⟨d.hb,3,none⟩=some (.map (some d.gm))
 f2:w.frozen? ⟨d.hb,2,none⟩=false
 sizes:SliceAt w d.sp d.sc S.sizes
 order:SliceAt w d.op d.oc S.order
 words:WordsAt w d.gw S.words
 le:S.words.length<=d.cap
 cap:d.cap<=9223372036854775807
 map:MapAt Tryz.prog w d.gm S.taken
 below:∀ a ∈ S.taken,a < S.words.length
 apart1:d.hb ≠ d.gw
 apart2:d.hb ≠ d.gm
 apart3:d.gw ≠ d.gm
 far1:∀ b o,d.sp=some ⟨b,o,none⟩->b ∉ d.own
 far2:∀ b o,d.op=some ⟨b,o,none⟩->b ∉ d.own
 pos:∀ s ∈ S.sizes,1<=s/\s<=12
 small:S.words.length<=1000000
 few:S.sizes.length<=6
 old1:∀ b o,d.sp=some ⟨b,o,none⟩->b < w.heap.size
 old2:∀ b o,d.op=some ⟨b,o,none⟩->b < w.heap.size
namespace HAt
variable {w w':World} {d:Hd} {S:Hp.Hs}
theorem lt (h:HAt w d S):d.hb < w.heap.size:=cell_lt h.c0
theorem ext (h:HAt w d S) (k:Ext w w'):HAt w' d S:=
 { h with
   c0:=(k.cell h.lt 0).trans h.c0
   c1:=(k.cell h.lt 1).trans h.c1
   c2:=(k.cell h.lt 2).trans h.c2
   c3:=(k.cell h.lt 3).trans h.c3
   f2:=(k.frozen h.lt 2).trans h.f2
   sizes:=h.sizes.ext k
   order:=h.order.ext k
   words:=h.words.ext k
   map:=h.map.ext k
   old1:=fun b o e=>Nat.lt_of_lt_of_le (h.old1 b o e) k.le
   old2:=fun b o e=>Nat.lt_of_lt_of_le (h.old2 b o e) k.le }
theorem taken_len (h:HAt w d S):S.taken.length<=S.words.length:=by
 have:=h.map.sorted
 have hb:=h.below
 generalize S.words.length=n at hb
 generalize S.taken=T at this hb
 have key:∀ (m:Nat) (T:List Nat),T.Pairwise (· < ·)->(∀ a ∈ T,m<=a/\a < n)->T.length+m<=n \/ T=[]:=by
  intro m T
  induction T generalizing m with
  | nil=>intro _ _;exact Or.inr rfl
  | cons a r ih=>
   intro hp hr;obtain ⟨h1,h2⟩:=List.pairwise_cons.1 hp;have ha:=hr a (by simp);left
   rcases ih (a+1) h2 (fun b hb=>⟨h1 b hb,(hr b (by simp [hb])).2⟩) with h | h
   . simp;omega
   subst h;simp;omega
 rcases key 0 T this (fun a ha=>⟨Nat.zero_le _,hb a ha⟩) with h | h
 . omega
 subst h;simp
theorem set (h:HAt w d S) {v:Int} (hw:Hp.wr S.words j v=some W) (h1 : -9223372036854775808<=v) (h2:v<=9223372036854775807):HAt (w.setCell ⟨d.gw,j,none⟩ (.int .i64 v)) d { S with words:=W }:=by
 have hl:W.length=S.words.length:=by
  unfold Hp.wr at hw
  split at hw
  . cases hw;simp
  cases hw
 have k:But [d.gw] w (w.setCell ⟨d.gw,j,none⟩ (.int .i64 v)):=(But.refl _ _).setCell (by simp) _
 have n1:d.hb ∉ [d.gw]:=by simp [h.apart1]
 have n2:d.gm ∉ [d.gw]:=by simp [h.apart3.symm]
 exact
 { c0:=(k.cell h.lt n1 0).trans h.c0
   c1:=(k.cell h.lt n1 1).trans h.c1
   c2:=by rw [k.cell h.lt n1 2,h.c2,hl]
   c3:=(k.cell h.lt n1 3).trans h.c3
   f2:=(k.frozen h.lt n1 2).trans h.f2
   sizes:=h.sizes.but k (fun b o e hm=>h.far1 b o e (by simp [Hd.own] at hm ⊢;simp [hm]))
   order:=h.order.but k (fun b o e hm=>h.far2 b o e (by simp [Hd.own] at hm ⊢;simp [hm]))
   words:=h.words.set hw h1 h2
   le:=by rw [hl];exact h.le
   cap:=h.cap
   map:=h.map.but k n2
   below:=by rw [hl];exact h.below
   apart1:=h.apart1
   apart2:=h.apart2
   apart3:=h.apart3
   far1:=h.far1
   far2:=h.far2
   pos:=h.pos
   small:=by rw [hl];exact h.small
   few:=h.few
   old1:=fun b o e=>Nat.lt_of_lt_of_le (h.old1 b o e) k.size
   old2:=fun b o e=>Nat.lt_of_lt_of_le (h.old2 b o e) k.size }
end HAt
open Go.RowKit
namespace HAt
variable {w w':World} {d:Hd} {S:Hp.Hs}
theorem turn (h:HAt w d S) (k:But [d.gw,d.gm] w w') (hw:WordsAt w' d.gw W) (hl:W.length=S.words.length) (hm:MapAt Tryz.prog w' d.gm T) (hb:∀ a ∈ T,a < W.length):HAt w' d { S with words:=W,taken:=T }:=by
 have n1:d.hb ∉ [d.gw,d.gm]:=by simp [h.apart1,h.apart2]
 exact
 { c0:=(k.cell h.lt n1 0).trans h.c0
   c1:=(k.cell h.lt n1 1).trans h.c1
   c2:=by rw [k.cell h.lt n1 2,h.c2,hl]
   c3:=(k.cell h.lt n1 3).trans h.c3
   f2:=(k.frozen h.lt n1 2).trans h.f2
   sizes:=h.sizes.but k (fun b o e hm=>h.far1 b o e (by simp [Hd.own] at hm ⊢;rcases hm with hm | hm <;> simp [hm]))
   order:=h.order.but k (fun b o e hm=>h.far2 b o e (by simp [Hd.own] at hm ⊢;rcases hm with hm | hm <;> simp [hm]))
   words:=hw
   le:=by rw [hl];exact h.le
   cap:=h.cap
   map:=hm
   below:=hb
   apart1:=h.apart1
   apart2:=h.apart2
   apart3:=h.apart3
   far1:=h.far1
   far2:=h.far2
   pos:=h.pos
   small:=by rw [hl];exact h.small
   few:=h.few
   old1:=fun b o e=>Nat.lt_of_lt_of_le (h.old1 b o e) k.size
   old2:=fun b o e=>Nat.lt_of_lt_of_le (h.old2 b o e) k.size }
theorem but (h:HAt w d S) {l:List Nat} (k:But l w w') (h0:d.hb ∉ l) (h1:d.gw ∉ l) (h2:d.gm ∉ l) (h3:∀ b o,d.sp=some ⟨b,o,none⟩->b ∉ l) (h4:∀ b o,d.op=some ⟨b,o,none⟩->b ∉ l):HAt w' d S:=
 { h with
   c0:=(k.cell h.lt h0 0).trans h.c0
   c1:=(k.cell h.lt h0 1).trans h.c1
   c2:=(k.cell h.lt h0 2).trans h.c2
   c3:=(k.cell h.lt h0 3).trans h.c3
   f2:=(k.frozen h.lt h0 2).trans h.f2
   sizes:=h.sizes.but k h3
   order:=h.order.but k h4
   words:=h.words.but k h1
   map:=h.map.but k h2
   old1:=fun b o e=>Nat.lt_of_lt_of_le (h.old1 b o e) k.size
   old2:=fun b o e=>Nat.lt_of_lt_of_le (h.old2 b o e) k.size }
theorem wr_len {W':List Int} {v:Int} (h:Hp.wr W j v=some W'):W'.length=W.length/\j < W.length:=by
 unfold Hp.wr at h
 split at h
 . rename_i hj
   cases h
   exact ⟨by simp,hj⟩
 cases h
theorem zero_len {W':List Int} (h:Hp.zero W i n=some W'):W'.length=W.length/\i+n<=W.length:=by
 unfold Hp.zero at h
 split at h
 . rename_i hj
   cases h
   exact ⟨by simp;omega,hj⟩
 cases h
theorem lay_len {W':List Int} (h:Hp.lay W i l=some W'):W'.length=W.length/\i+l.length<=W.length:=by
 unfold Hp.lay at h
 split at h
 . rename_i hj
   cases h
   exact ⟨by simp;omega,hj⟩
 cases h
theorem clear (h:HAt w d S) (hw:Hp.zero S.words i n=some W):HAt (w.setCells d.gw i (List.replicate n (.int .i64 0))) d { S with words:=W }:=by
 have k:But [d.gw,d.gm] w (w.setCells d.gw i (List.replicate n (.int .i64 0))):=But.setCells (by simp) _ _ (But.refl _ _)
 have k1:But [d.gw] w (w.setCells d.gw i (List.replicate n (.int .i64 0))):=But.setCells (by simp) _ _ (But.refl _ _)
 exact h.turn k (h.words.clear hw) (zero_len hw).1 (h.map.but k1 (by simp [h.apart3.symm])) (fun a ha=>by rw [(zero_len hw).1];exact h.below a ha)
theorem mapped (h:HAt w d S) (k:w.mapTurned w' d.gm) (hm:MapAt Tryz.prog w' d.gm T) (hb:∀ a ∈ T,a < S.words.length):HAt w' d { S with taken:=T }:=by
 have k1:But [d.gm] w w':=(But.refl _ _).turned k (by simp)
 exact h.turn (k1.mono (by simp)) (h.words.but k1 (by simp [h.apart3])) rfl hm hb
end HAt
structure Now (w0 w:World) (d:Hd) (S:Hp.Hs):Prop extends HAt w d S where
 but:But d.own w0 w
theorem Hd.gw_own (d:Hd):d.gw ∈ d.own:=by simp [Hd.own]
theorem Hd.gm_own (d:Hd):d.gm ∈ d.own:=by simp [Hd.own]
theorem Hd.hb_own (d:Hd):d.hb ∈ d.own:=by simp [Hd.own]
namespace Now
variable {w0 w w':World} {d:Hd} {S:Hp.Hs}
theorem refl (h:HAt w d S):Now w w d S:=⟨h,But.refl _ _⟩
theorem ext (h:Now w0 w d S) (k:Ext w w'):Now w0 w' d S:=⟨h.toHAt.ext k,h.but.ext k⟩
theorem set (h:Now w0 w d S) {v:Int} (hw:Hp.wr S.words j v=some W) (h1 : -9223372036854775808<=v) (h2:v<=9223372036854775807):Now w0 (w.setCell ⟨d.gw,j,none⟩ (.int .i64 v)) d { S with words:=W }:=
 ⟨h.toHAt.set hw h1 h2,h.but.setCell (.inl d.gw_own) _⟩
theorem clear (h:Now w0 w d S) (hw:Hp.zero S.words i n=some W):Now w0 (w.setCells d.gw i (List.replicate n (.int .i64 0))) d { S with words:=W }:=
 ⟨h.toHAt.clear hw,But.setCells (.inl d.gw_own) _ _ h.but⟩
theorem mapped (h:Now w0 w d S) (k:w.mapTurned w' d.gm) (hm:MapAt Tryz.prog w' d.gm T) (hb:∀ a ∈ T,a < S.words.length):Now w0 w' d { S with taken:=T }:=
 ⟨h.toHAt.mapped k hm hb,h.but.turned k (.inl d.gm_own)⟩
theorem turned (h:Now w0 w d S) {l:List Nat} {d':Hd} (k:But l w w') (hl:∀ x ∈ l,x ∈ d.own) (h':HAt w' d' S) (hd:d'.own=d.own):Now w0 w' d' S:=⟨h',by rw [hd];exact h.but.trans (k.mono hl)⟩
theorem cut {P:Program} {c:Code} {Q:Exit->Act->World->Prop} {a:Act} (h:Now w0 w d S) (k:∀ w',Now w0 w' d S->c.wp P Q a w'):c.wp P Q a w:=k w h
end Now
def Turned (d:Hd) (w:World) (v:Value) (S:Hp.Hs) (e:Ending) (w':World):Prop:=e = .returned v/\HAt w' d S/\But d.own w w'
theorem Now.done {d:Hd} {v:Value} (h:Now w0 w d S):Turned d w0 v S (.returned v) w:=⟨rfl,h.toHAt,h.but⟩
end Go.Proofs.YtdokmmhjmclmnaaGreat
