/- Part 11 of a proof. -/
import Derived.Test.YtdokmmhjmclmnaaGreatMU09
import Derived.Test.YtdokmmhjmclmnaaGreatMU10
set_option linter.unusedSimpArgs false
set_option linter.unusedVariables false
set_option linter.unusedSectionVars false
set_option linter.unnecessarySimpa false
set_option maxHeartbeats 2000000
namespace Go.Proofs.YtdokmmhjmclmnaaGreat
open Go.Proofs.Tryz
variable {W' w w' w0 wb:World} {B a b bx c ca cap ce cn f g i j k lb m n qc:Nat} {choice e t x:Int} {A W fs ks l o z:List Int} {D T Y:List Nat} {p p2 pa pe pn q:Option Addr} {d:Hd} {S S':Hp.Hs} {L:List Hp.Tl} {M:List (Nat × Int)} {s:Hp.Sc}
namespace Hp
def lastB:Nat->List Tl->Nat
 | b,[]=>b
 | b,t :: r=>if t.fr then lastB t.a r else lastB b r
theorem Lay.cast {s:Nat} (h:Lay s L n) (e:n=m):Lay s L m:=e ▸ h
theorem k2a {W:List Int} {a:Nat} {X:List Tl} (hX:a4a X 0=0 \/ (a:Int)<=a4a X 0):∀ (P:List Tl) (b l m s:Nat),B6a (ow W) l (P ++ X) 0->Lay s P a->l < s->l < W.length->a < W.length->P.length < m->Hs.seek W a m b l=some (lastB b P,B9a l P)
 | [],b,l,m,s,h,_,_,hl,_,hm=>by
  cases m with
  | zero=>simp at hm
  | succ m=>
   have e:ow W l=a4a X 0:=B6a.head h;have h0:0<=ow W l:=by rcases hX with h | h <;> omega
   unfold Hs.seek;rw [Y5a (a:=(ow W l).toNat) hl (by omega)];simp only [v9b,B5c];rw [H4c (by omega)];rfl
 | t :: r,b,l,m,s,h,hL,hls,hl,ha,hm=>by
  obtain ⟨h1,h2,h3⟩:=hL;simp only [A6c] at h;simp only [A5c] at hm;unfold B6a at h
  cases hf:t.fr with
  | false=>
   rw [hf] at h;simp only [x6b,H1c] at h;have:=k2a hX r b l m _ h h3 (by omega) hl ha (by omega)
   simpa [lastB,B9a,hf] using this
  | true=>
   rw [hf] at h;simp only [H2c] at h
   cases m with
   | zero=>simp at hm
   | succ m=>
    have hle:=h3.le;have:=k2a hX r t.a (t.a+2) m _ h.2 h3 (by omega) (by omega) ha (by omega);unfold Hs.seek;rw [Y5a hl h.1];simp only [v9b,B5c];rw [H5c (by omega),this];simp [lastB,B9a,hf]
theorem c9a:∀ (P:List Tl) (b l:Nat),((∀ t ∈ P,t.fr=false)/\lastB b P=b/\B9a l P=l) \/ ∃ P1 v P2,P=P1 ++ v :: P2/\v.fr=true/\(∀ t ∈ P2,t.fr=false)/\lastB b P=v.a/\B9a l P=v.a+2
 | [],b,l=>.inl ⟨by simp,rfl,rfl⟩
 | t :: r,b,l=>by
  cases hf:t.fr with
  | false=>
   rcases c9a r b l with ⟨h1,h2,h3⟩ | ⟨P1,v,P2,rfl,h2,h3,h4,h5⟩
   . refine .inl ⟨fun u hu=>?_,by simpa [lastB,hf] using h2,by simpa [B9a,hf] using h3⟩
     rcases E6c.1 hu with rfl | hu
     . exact hf
     exact h1 u hu
   exact .inr ⟨t :: P1,v,P2,rfl,h2,h3,by simpa [lastB,hf] using h4,by simpa [B9a,hf] using h5⟩
  | true=>
   rcases c9a r t.a (t.a+2) with ⟨h1,h2,h3⟩ | ⟨P1,v,P2,rfl,h2,h3,h4,h5⟩
   . exact .inr ⟨[],t,r,rfl,hf,h1,by simpa [lastB,hf] using h2,by simpa [B9a,hf] using h3⟩
   exact .inr ⟨t :: P1,v,P2,rfl,h2,h3,by simpa [lastB,hf] using h4,by simpa [B9a,hf] using h5⟩
theorem t6a {s n:Nat}:∀ {Q:List Tl},Lay s Q n->a4a Q 0=0 \/ (s:Int)<=a4a Q 0
 | [],_=>.inl rfl
 | t :: r,h=>by
  obtain ⟨h1,h2,h3⟩:=h;unfold a4a
  cases t.fr
  . rcases t6a h3 with h | h
    . exact .inl (by simpa using h)
    right;simp only [x6b,H1c];omega
  right;simp;omega
structure Right (W1 W2:List Int) (z:List Int) (a k k2 n:Nat) (nx:Int) (Q Q2:List Tl):Prop where
 len:W2.length=W1.length
 lay:Lay (a+k2) Q2 n
 le:k<=k2
 hd:hdF Q2=false
 nxe:nx=a4a Q2 0
 ads:A6a Q2=A6a Q
 sub:∀ t ∈ Q2,t ∈ Q
 sep:Sep Q2
 out:∀ j,j < a+k \/ a+k2<=j->ow W2 j=ow W1 j
 inn:∀ j,a+k<=j->j < a+k2->ow W2 j=0
 links:∀ (g:Nat->Int) (l':Nat),g l'=nx->(∀ t ∈ Q2,t.fr=true->g (t.a+2)=ow W1 (t.a+2))->B6a g l' Q2 0
theorem e0b {W1 W2 W3 : List Int} {x y : Nat} {k w after s : Int} (h1 : rd W1 x = some after) (h2 : rc W1 y = some w) (h3 : ck (k + w) = some s) (h4 : wr W1 y 0 = some W2) (h5 : wr W2 x 0 = some W3) : (do
      let after <- rd W1 x
      let w <- rc W1 y
      some (<- ck (k+w),after,<- wr (<- wr W1 y 0) x 0):Option (Int × Int × List Int))=some (s,after,W3):=by
  rw [h1,h2];simp only [v9b,B5c];rw [h3,h4];simp only [B5c];rw [h5];rfl
theorem O5b {W1:List Int} {link:Nat} {Q:List Tl} (hk:3<=k) (hn:W1.length<=100000) (hl:link < W1.length) (h:B6a (ow W1) link Q 0) (hL:Lay (a+k) Q W1.length) (hS:Sep Q) (hp:∀ t ∈ Q,G3a (ow W1) z t) :
    ∃ k2 nx W2 Q2,(if ow W1 link=((a+k:Nat):Int) then do
     let after <- rd W1 (a+k+2)
     let w <- rc W1 (a+k+1)
     some (<- ck (((k:Nat):Int)+w),after,<- wr (<- wr W1 (a+k+1) 0) (a+k+2) 0)
    else some (((k:Nat):Int),ow W1 link,W1):Option (Int × Int × List Int))=some (((k2:Nat):Int),nx,W2)/\Right W1 W2 z a k k2 W1.length nx Q Q2:=by
  cases Q with
  | nil=>
   have e:ow W1 link=0:=h;refine ⟨k,0,W1,[], ?_,rfl,hL,H0c _,rfl,rfl,rfl,by simp,trivial,fun _ _=>rfl,fun j h1 h2=>by omega,fun g l' e' _=>e'⟩;rw [H4c (by omega),e]
  | cons v Q=>
   obtain ⟨l1,l2,l3⟩:=hL;obtain ⟨s1,s2⟩:=Sep.cons.1 hS
   cases hf:v.fr with
   | false=>
    have e:=h.head;unfold a4a at e;rw [hf] at e;simp only [x6b,H1c] at e;have hg:=t6a l3;refine ⟨k,ow W1 link,W1,v :: Q, ?_,rfl,⟨l1,l2,l3⟩,H0c _,hf,h.head,rfl,by simp,hS,fun _ _=>rfl,fun j h1 h2=>by omega,fun g l' e' hm=>h.move e' hm⟩;rw [H4c (by omega)]
   | true=>
    have hv:=(hp v (by simp)).free hf;unfold B6a at h;rw [hf] at h;simp only [H2c] at h;have hle:=l3.le;rw [l1] at hv h;obtain ⟨W2,e2,q2,g2⟩:=J8a (W:=W1) (i:=a+k+1) 0 (by omega);obtain ⟨W3,e3,q3,g3⟩:=J8a (W:=W2) (i:=a+k+2) 0 (by omega);have hhd:hdF Q=false:=by
     cases hq:hdF Q with
     | false=>rfl
     | true=>exact absurd ⟨hf,hq⟩ s1
    have had:A6a Q=A6a (v :: Q):=by
     simp [A6a,hf]
    refine ⟨k+v.k,ow W1 (a+k+2),W3,Q, ?_,q3.trans q2, ?_,by omega,hhd,h.2.head,had,fun t ht=>by simp [ht],s2,fun j hj=>?_,fun j h1 h2=>?_,fun g l' e' hm=>h.2.move e' fun t ht hf'=>hm t ht hf'⟩
    . rw [H5c h.1];have h2:rc W1 (a+k+1)=some (v.k:Int):=by
       rw [g5a (by omega) (by rw [hv.2.1];omega) (by rw [hv.2.1];omega),hv.2.1]
      have h3:ck ((k:Int)+(v.k:Int))=some (((k+v.k:Nat)):Int):=by
       rw [D2c];exact C2b (by omega) (by omega)
      exact e0b (F7a (by omega)) h2 h3 e2 e3
    . rw [<- F0c];exact l3
    . rw [g3,g2,H4c (by omega),H4c (by omega)]
    rw [g3,g2]
    split
    . rfl
    split
    . rfl
    by_cases e:j=a+k
    . rw [e];exact hv.1
    exact hv.2.2 j (by omega) (by omega)
theorem f4a:∀ {P:List Tl},(∀ t ∈ P,t.fr=false)->ltF P=false
 | [],_=>rfl
 | [t],h=>h t (by simp)
 | t :: u :: r,h=>by
  have:=f4a (P:=u :: r) fun v hv=>h v (by simp [hv])
  simpa [ltF] using this
theorem T1b:∀ {X P:List Tl},P ≠ []->ltF (X ++ P)=ltF P
 | [],_,_=>rfl
 | [t],p :: P,_=>by simp [ltF]
 | t :: u :: X,P,h=>by
  have:=T1b (X:=u :: X) h
  simpa [ltF] using this
structure Freed (S S':Hs) (z:List Int) (L L':List Tl) (a:Nat):Prop where
 sizes:S'.sizes=S.sizes
 order:S'.order=S.order
 len:S'.words.length=S.words.length
 taken:S'.taken=S.taken.erase a
 parts:Parts (ow S'.words) z L' S.words.length
 ads:∀ b,b ∈ A6a L' ↔ b ∈ A6a L/\b ≠ a
 low:∀ j,j < 16->ow S'.words j=ow S.words j
 keep:∀ t ∈ L,t.fr=false->t.a ≠ a -> ∀ j,t.a<=j->j < t.a+t.k->ow S'.words j=ow S.words j
theorem free_spec {P Q:List Tl} (hz:Fr S.sizes) (hn:S.words.length<=100000) (h:Parts (ow S.words) S.sizes (P ++ ⟨a,k,false⟩ :: Q) S.words.length) :
    ∃ S' L',S.free a=some S'/\Freed S S' S.sizes (P ++ ⟨a,k,false⟩ :: Q) L' a:=by
  have hmem:(⟨a,k,false⟩:Tl) ∈ P ++ ⟨a,k,false⟩ :: Q:=by simp
  have hcell:=(h.ok _ hmem).cell rfl;have hum:=h.lay.mem hmem;obtain ⟨lP,l3,lQ⟩:=h.lay.parts;simp only at hcell hum lP l3 lQ;have hwz:=S6a hz hcell.1;rw [<- hcell.2] at hwz;obtain ⟨W1,e1,q1,g1⟩:=B0b (W:=S.words) (i:=a) (n:=k) (by omega);have hLl:=R0a h.lay;simp only [w2b,A5c] at hLl;obtain ⟨s1,s2,s3⟩:=Sep.app.1 h.sep;obtain ⟨s4,s5⟩:=Sep.cons.1 s2
  -- the words of the others
  have hout:∀ j,j < a \/ a+k<=j->ow W1 j=ow S.words j:=fun j hj=>by rw [g1,H4c (by omega)]
  have mP:∀ t ∈ P,17<=t.a/\t.a+t.k<=a/\3<=t.k:=fun t ht=>lP.mem ht
  have mQ:∀ t ∈ Q,a+k<=t.a/\t.a+t.k<=S.words.length/\3<=t.k:=fun t ht=>lQ.mem ht
  have L1:B6a (ow W1) 16 (P ++ Q) 0:=by
   have:B6a (ow S.words) 16 (P ++ Q) 0:=by
    have:=h.links;rw [B6a.app] at this ⊢;exact this
   refine this.congr (hout _ (by omega)) fun t ht _=>hout _ ?_
   rcases C4c.1 ht with ht | ht
   . have:=mP t ht;omega
   have:=mQ t ht;omega
  have pQ:∀ t ∈ Q,G3a (ow W1) S.sizes t:=fun t ht=>by
   have:=mQ t ht;exact (h.ok t (by simp [ht])).congr (hout _ (by omega)) fun _=>⟨hout _ (by omega),fun j _ _=>hout _ (by omega)⟩
  have pP:∀ t ∈ P,G3a (ow W1) S.sizes t:=fun t ht=>by
   have:=mP t ht;exact (h.ok t (by simp [ht])).congr (hout _ (by omega)) fun _=>⟨hout _ (by omega),fun j _ _=>hout _ (by omega)⟩
  have hll:=a2a lP (l:=16) (by omega);have hseek:=k2a (W:=W1) (a:=a) (X:=Q) ((t6a lQ).elim .inl fun h=>.inr (by omega)) P 0 16 S.fuel 17 L1 lP (by omega) (by omega) (by omega) (by unfold Hs.fuel;omega);obtain ⟨k1,k2'⟩:=B6a.app.1 L1;obtain ⟨k2,nx,W2,Q2,hR,R⟩:=O5b (W1:=W1) (z:=S.sizes) (a:=a) (k:=k) (link:=B9a 16 P) (Q:=Q) (by omega) (by omega) (by omega) k2' (by rw [q1];exact lQ) s5 pQ;generalize hlk:B9a 16 P=link at *;generalize hbf:lastB 0 P=before at *;have q2:=R.len;have r2:=R.out;have r3:=R.inn;have r4:=R.le;have r5:=R.lay.le;have zer:∀ j,a<=j->j < a+k2->ow W2 j=0:=fun j h1 h2=>by
   by_cases hj:j < a+k
   . rw [r2 j (.inl hj),g1,H5c ⟨h1,hj⟩]
   exact r3 j (by omega) h2
  have outs:∀ j,j < a \/ a+k2<=j->ow W2 j=ow S.words j:=fun j hj=>by
   rw [r2 j (by omega),hout j (by omega)]
  have hfree:S.free a=(do
      let joined <- (if before ≠ 0 then do some (decide ((before:Int)+(<- rc W2 (before+1))=a)) else some false:Option Bool)
      if joined then
       let w <- rc W2 (before+1)
       return { S with words:=(<- wr (<- wr W2 (before+1) (w+k2)) (before+2) nx),taken:=S.taken.erase a }
      else
       return { S with words:=(<- wr (<- wr (<- wr W2 (a+1) k2) (a+2) nx) link a),taken:=S.taken.erase a }):=by
    unfold Hs.free;rw [i3a hz (by omega) hcell.1,<- hcell.2];simp only [v9b,B5c,e1,hseek];rw [F7a (by omega:link < W1.length)];simp only [B5c];have hR':=hR;simp only [v9b] at hR';rw [hR'];rfl
  have mQ2:∀ t ∈ Q2,a+k2<=t.a/\t.a+t.k<=S.words.length/\3<=t.k:=fun t ht=>by
   have:=R.lay.mem ht;omega
  have hads0:A6a (P ++ ⟨a,k,false⟩ :: Q)=A6a P ++ a :: A6a Q:=by
   rw [D2a];show A6a P ++ A6a ([⟨a,k,false⟩] ++ Q)=_;rw [D2a];rfl
  have nP:a ∉ A6a P:=fun hm=>by
   obtain ⟨t,ht,_,e⟩:=B4a.1 hm;have:=mP t ht;omega
  have nQ:a ∉ A6a Q:=fun hm=>by
   obtain ⟨t,ht,_,e⟩:=B4a.1 hm;have:=mQ t ht;omega
  -- no free part ends where the cell begins
  have FAR:ltF P=false->True->(do (if before ≠ 0 then do some (decide ((before:Int)+(<- rc W2 (before+1))=a)) else some false:Option Bool))=some false -> ∃ S' L',S.free a=some S'/\Freed S S' S.sizes (P ++ ⟨a,k,false⟩ :: Q) L' a:=by
   intro hlt _ hj;obtain ⟨W3,e3,q3,g3⟩:=J8a (W:=W2) (i:=a+1) (k2:Int) (by omega);obtain ⟨W4,e4,q4,g4⟩:=J8a (W:=W3) (i:=a+2) nx (by omega);obtain ⟨W5,e5,q5,g5⟩:=J8a (W:=W4) (i:=link) (a:Int) (by omega);have G:∀ j,ow W5 j=if j=link then (a:Int) else if j=a+2 then nx else if j=a+1 then (k2:Int) else ow W2 j:=fun j=>by rw [g5,g4,g3]
   have linkP:link=16 \/ ∃ v ∈ P,v.fr=true/\link=v.a+2:=by
    rw [<- hlk];exact i8a
   have GO:∀ j,(j < a \/ a+k2<=j)->j ≠ link->ow W5 j=ow S.words j:=fun j h1 h2=>by
    rw [G,H4c h2,H4c (by omega),H4c (by omega)];exact outs j h1
   refine ⟨{ S with words:=W5,taken:=S.taken.erase a },P ++ ⟨a,k2,true⟩ :: Q2, ?_,rfl,rfl,by show W5.length=_;omega,rfl,⟨Lay.app.2 ⟨a,lP,rfl,by show 3<=k2;omega,R.lay.cast q1⟩,B6a.app.2 ⟨?_, ?_⟩,Sep.app.2 ⟨s1,Sep.cons.2 ⟨by rw [R.hd];simp,R.sep⟩,by rw [hlt];simp⟩,fun t ht=>?_⟩,fun b=>?_,fun j hj=>GO j (by omega) (by omega),fun t ht hf hne j h1 h2=>?_⟩
   . rw [hfree,hj];simp only [v9b,B5c,x6b,H1c,e3,e4,e5];rfl
   . refine k1.turn _ lP (by omega) ?_ (fun hne=>?_) fun v hv hf hne=>?_
     . rw [hlk,G,H5c rfl];rfl
     . rw [hlk] at hne;rw [GO _ (by omega) hne,hout _ (by omega)]
     rw [hlk] at hne;have:=mP v hv;rw [GO _ (by omega) hne,hout _ (by omega)]
   . rw [hlk];refine ⟨by show ow W5 link=(a:Int);rw [G,H5c rfl],R.links _ _ ?_ fun t ht _=>?_⟩
     . show ow W5 (a+2)=nx;rw [G,H4c (by omega),H5c rfl]
     have:=mQ2 t ht;rw [GO _ (by omega) (by omega),hout _ (by omega)]
   . have hcase:t ∈ P \/ t=⟨a,k2,true⟩ \/ t ∈ Q2:=by simpa using ht
     rcases hcase with ht | rfl | ht
     . have hm:=mP t ht;have nl:∀ j,t.a<=j->j < t.a+t.k->(j=t.a+2->t.fr=false)->j ≠ link:=fun j h1 h2 h3=>by
        rcases linkP with e | ⟨v',hv',hvf',e⟩
        . omega
        have h1':=mP v' hv'
        rcases lP.sep ht hv' with e2 | e2
        . rw [e,<- e2];intro e3;have:=h3 e3;rw [e2,hvf'] at this
          cases this
        omega
       refine (h.ok t (by simp [ht])).congr (GO _ (by omega) (nl _ (by omega) (by omega) (by omega))) fun hf=>⟨GO _ (by omega) (nl _ (by omega) (by omega) (by omega)),fun j h1 h2=>GO _ (by omega) (nl _ (by omega) (by omega) (by omega))⟩
     . unfold G3a;simp only [H2c];refine ⟨?_, ?_,fun j h1 h2=>?_⟩
       . rw [G,H4c (by omega),H4c (by omega),H4c (by omega)];exact zer _ (by omega) (by omega)
       . rw [G,H4c (by omega),H4c (by omega),H5c rfl]
       rw [G,H4c (by omega),H4c (by omega),H4c (by omega)];exact zer _ (by omega) (by omega)
     have hm:=mQ2 t ht;exact (h.ok t (by simp [R.sub t ht])).congr (GO _ (by omega) (by omega)) fun hf=>⟨GO _ (by omega) (by omega),fun j h1 h2=>GO _ (by omega) (by omega)⟩
   . have:A6a (P ++ ⟨a,k2,true⟩ :: Q2)=A6a P ++ A6a Q:=by
       rw [D2a,<- R.ads];show A6a P ++ A6a ([⟨a,k2,true⟩] ++ Q2)=_;rw [D2a];rfl
     rw [this,hads0];simp only [C4c,E6c];constructor
     . rintro (h | h)
       . exact ⟨.inl h,fun e=>nP (e ▸ h)⟩
       exact ⟨.inr (.inr h),fun e=>nQ (e ▸ h)⟩
     rintro ⟨h | h | h,hne⟩
     . exact .inl h
     . exact absurd h hne
     exact .inr h
   have hcase:t ∈ P \/ t=⟨a,k,false⟩ \/ t ∈ Q:=by simpa using ht
   rcases hcase with ht' | rfl | ht'
   . have hm:=mP t ht';refine GO _ (by omega) ?_
     rcases linkP with e | ⟨v',hv',hvf',e⟩
     . omega
     have h1':=mP v' hv'
     rcases lP.sep ht' hv' with e2 | e2
     . rw [e2,hvf'] at hf
       cases hf
     omega
   . exact absurd rfl hne
   have hm:=mQ t ht';have h3:t ∈ Q2:=by
    have:t.a ∈ A6a Q2:=by
     rw [R.ads];exact B4a.2 ⟨t,ht',hf,rfl⟩
    obtain ⟨u,hu,huf,e⟩:=B4a.1 this;have:=lQ.same (R.sub u hu) ht' e;rw [<- this];exact hu
   have:=mQ2 t h3;exact GO _ (by omega) (by omega)
  rcases c9a P 0 16 with ⟨c1,c2,c3⟩ | ⟨P1,v,P2,hP,c1,c2,c3,c4⟩
  . refine FAR (f4a c1) trivial ?_;rw [hbf] at c2;rw [H4c (by omega)]
  rw [hbf] at c3;rw [hlk] at c4;have hv:=(pP v (by rw [hP];simp)).free c1;have hm:=mP v (by rw [hP];simp);have hx:ow W2 (before+1)=v.k:=by rw [c3,outs _ (by omega),<- hout _ (by omega)];exact hv.2.1
  have hrc:rc W2 (before+1)=some (v.k:Int):=by
   rw [g5a (by omega) (by rw [hx];omega) (by rw [hx];omega),hx]
  by_cases h2:P2=[]
  . subst h2;subst hP;obtain ⟨lP1,lv,lv2⟩:=lP.parts;have hva:v.a+v.k=a:=lv2;obtain ⟨W3,e3,q3,g3⟩:=J8a (W:=W2) (i:=before+1) ((v.k:Int)+k2) (by omega);obtain ⟨W4,e4,q4,g4⟩:=J8a (W:=W3) (i:=before+2) nx (by omega);have G:∀ j,ow W4 j=if j=v.a+2 then nx else if j=v.a+1 then (v.k:Int)+k2 else ow W2 j:=fun j=>by rw [g4,g3,c3]
    have GO:∀ j,(j < v.a \/ a+k2<=j)->ow W4 j=ow S.words j:=fun j h1=>by
     rw [G,H4c (by omega),H4c (by omega)];exact outs j (by omega)
    have mP1:∀ t ∈ P1,17<=t.a/\t.a+t.k<=v.a/\3<=t.k:=fun t ht=>lP1.mem ht
    obtain ⟨t1,t2,t3⟩:=Sep.app.1 s1;have hl1:ltF P1=false:=by
     cases hq:ltF P1 with
     | false=>rfl
     | true=>exact absurd ⟨hq,c1⟩ t3
    have k1':B6a (ow W1) 16 P1 v.a:=by
     have:=(B6a.app.1 k1).1;unfold a4a at this;rw [c1] at this
     simpa using this
    have hl2:=a2a lP1 (l:=16) (by omega);have k1'':ow W1 (B9a 16 P1)=v.a:=by
     have:=(B6a.app.1 k1).2;unfold B6a at this;rw [c1] at this;simp only [H2c] at this;exact this.1
    refine ⟨{ S with words:=W4,taken:=S.taken.erase a },P1 ++ ⟨v.a,v.k+k2,true⟩ :: Q2, ?_,rfl,rfl,by show W4.length=_;omega,rfl,⟨Lay.app.2 ⟨v.a,lP1,rfl,by show 3<=v.k+k2;omega, ?_⟩,B6a.app.2 ⟨?_, ?_⟩,Sep.app.2 ⟨t1,Sep.cons.2 ⟨by rw [R.hd];simp,R.sep⟩,by rw [hl1];simp⟩,fun t ht=>?_⟩,fun b=>?_,fun j hj=>GO j (by omega),fun t ht hf hne j h1 h2=>?_⟩
    . rw [hfree,H5c (by omega),hrc];simp only [v9b,B5c];rw [H5c (by simp;omega),e3];simp only [B5c,e4];rfl
    . show Lay (v.a+(v.k+k2)) Q2 _;rw [show v.a+(v.k+k2)=a+k2 by omega];exact R.lay.cast q1
    . show B6a (ow W4) 16 P1 (v.a:Int);exact k1'.congr (by rw [GO _ (by omega),hout _ (by omega)]) fun t ht _=>by
       have:=mP1 t ht;rw [GO _ (by omega),hout _ (by omega)]
    . refine ⟨?_,R.links _ _ ?_ fun t ht _=>?_⟩
      . show ow W4 (B9a 16 P1)=(v.a:Int);rw [GO _ (by omega),<- hout _ (by omega)];exact k1''
      . show ow W4 (v.a+2)=nx;rw [G,H5c rfl]
      have:=mQ2 t ht;rw [GO _ (by omega),hout _ (by omega)]
    . have hcase:t ∈ P1 \/ t=⟨v.a,v.k+k2,true⟩ \/ t ∈ Q2:=by simpa using ht
      rcases hcase with ht | rfl | ht
      . have hm:=mP1 t ht;exact (h.ok t (by simp [ht])).congr (GO _ (by omega)) fun hf=>⟨GO _ (by omega),fun j h1 h2=>GO _ (by omega)⟩
      . unfold G3a;simp only [H2c];have zz:∀ j,v.a+3<=j \/ j=v.a->j < a+k2->ow W2 j=0:=fun j h1 h2=>by
         by_cases hj:j < a
         . rw [outs _ (by omega),<- hout _ (by omega)]
           rcases h1 with h1 | h1
           . exact hv.2.2 j h1 (by omega)
           rw [h1];exact hv.1
         exact zer j (by omega) h2
        refine ⟨?_, ?_,fun j h1 h2=>?_⟩
        . rw [G,H4c (by omega),H4c (by omega)];exact zz _ (.inr rfl) (by omega)
        . rw [G,H4c (by omega),H5c rfl]
          push_cast
          rfl
        rw [G,H4c (by omega),H4c (by omega)];exact zz _ (.inl h1) (by omega)
      have hm:=mQ2 t ht;exact (h.ok t (by simp [R.sub t ht])).congr (GO _ (by omega)) fun hf=>⟨GO _ (by omega),fun j h1 h2=>GO _ (by omega)⟩
    . have e1:A6a (P1 ++ ⟨v.a,v.k+k2,true⟩ :: Q2)=A6a P1 ++ A6a Q:=by
        rw [D2a,<- R.ads];show A6a P1 ++ A6a ([⟨v.a,v.k+k2,true⟩] ++ Q2)=_;rw [D2a];rfl
      have e2:A6a (P1 ++ [v])=A6a P1:=by
       rw [D2a];simp [A6a,c1]
      rw [e2] at nP;rw [e1,hads0,e2];simp only [C4c,E6c];constructor
      . rintro (h | h)
        . exact ⟨.inl h,fun e=>nP (e ▸ h)⟩
        exact ⟨.inr (.inr h),fun e=>nQ (e ▸ h)⟩
      rintro ⟨h | h | h,hne⟩
      . exact .inl h
      . exact absurd h hne
      exact .inr h
    have hcase:t ∈ P1 \/ t=v \/ t=⟨a,k,false⟩ \/ t ∈ Q:=by simpa using ht
    rcases hcase with ht' | rfl | rfl | ht'
    . have hm:=mP1 t ht';exact GO _ (by omega)
    . rw [c1] at hf
      cases hf
    . exact absurd rfl hne
    have hm:=mQ t ht';have h3:t ∈ Q2:=by
     have:t.a ∈ A6a Q2:=by
      rw [R.ads];exact B4a.2 ⟨t,ht',hf,rfl⟩
     obtain ⟨u,hu,huf,e⟩:=B4a.1 this;have:=lQ.same (R.sub u hu) ht' e;rw [<- this];exact hu
    have:=mQ2 t h3;exact GO _ (by omega)
  refine FAR ?_ trivial ?_
  . rw [hP,show P1 ++ v :: P2=(P1 ++ [v]) ++ P2 by simp,T1b h2];exact f4a c2
  rw [H5c (by omega),hrc];simp only [v9b,B5c];have:v.a+v.k < a:=by
   subst hP;obtain ⟨lP1,lv,lv2⟩:=lP.parts
   cases P2 with
   | nil=>exact absurd rfl h2
   | cons p P2=>
    obtain ⟨p1,p2,p3⟩:=lv2;have:=p3.le;omega
  rw [dF]
end Hp
namespace Hp
theorem K7a (h:T.Pairwise (· < ·)):T.Nodup:=h.imp fun h=>Nat.ne_of_lt h
theorem n9a (D:List Nat):∀ (S:Hs) (L:List Tl),Fr S.sizes->S.words.length<=100000->Parts (ow S.words) S.sizes L S.words.length->(∀ a ∈ D,a ∈ A6a L)->D.Nodup->S.taken.Nodup ->
    ∃ S' L',Hs.frees S D=some S'/\S'.sizes=S.sizes/\S'.order=S.order/\S'.words.length=S.words.length/\S'.taken=S.taken.filter (fun b=>!D.contains b)/\Parts (ow S'.words) S.sizes L' S.words.length/\(∀ b,b ∈ A6a L' ↔ b ∈ A6a L/\b ∉ D) /\
     (∀ j,j < 16->ow S'.words j=ow S.words j) /\ ∀ t ∈ L,t.fr=false->t.a ∉ D -> ∀ j,t.a<=j->j < t.a+t.k->ow S'.words j=ow S.words j:=by
  induction D with
  | nil=>
   intro S L _ _ hp _ _ _;exact ⟨S,L,rfl,rfl,rfl,rfl,(List.filter_eq_self.2 (by simp)).symm,hp,by simp,fun _ _=>rfl,fun _ _ _ _ _ _ _=>rfl⟩
  | cons a D ih=>
   intro S L hz hn hp hD hd ht;obtain ⟨d1,d2⟩:=C2c.1 hd;obtain ⟨t,htL,htf,hta⟩:=B4a.1 (hD a (by simp));obtain ⟨P,Q,hPQ⟩:=List.append_of_mem htL;have et:t=⟨a,t.k,false⟩:=by
    cases t
    simp only at htf hta;subst htf hta;rfl
   rw [et] at hPQ;generalize t.k=k at *;subst hPQ;obtain ⟨S1,L1,e1,F⟩:=free_spec hz hn hp;obtain ⟨S2,L2,e2,g1,g2,g3,g4,g5,g6,g7,g8⟩:=ih S1 L1 (by rw [F.sizes];exact hz) (by rw [F.len];exact hn) (by rw [F.sizes,F.len];exact F.parts) (fun b hb=>(F.ads b).2 ⟨hD b (by simp [hb]),fun e=>d1 (e ▸ hb)⟩) d2 (by rw [F.taken];exact ht.erase a);refine ⟨S2,L2, ?_,g1.trans F.sizes,g2.trans F.order,g3.trans F.len, ?_, ?_,fun b=>?_,fun j hj=>(g7 j hj).trans (F.low j hj),fun u hu huf hne j h1 h2=>?_⟩
   . unfold Hs.frees;rw [e1];exact e2
   . rw [g4,F.taken,List.Nodup.erase_eq_filter ht,List.filter_filter];apply y4b;intro b _;rw [D5c];simp;constructor
     . rintro ⟨h1,h2⟩;exact ⟨h2,h1⟩
     rintro ⟨h1,h2⟩;exact ⟨h2,h1⟩
   . rw [F.sizes,F.len] at g5;exact g5
   . rw [g6,F.ads];simp only [E6c,not_or];constructor
     . rintro ⟨⟨h1,h2⟩,h3⟩;exact ⟨h1,h2,h3⟩
     rintro ⟨h1,h2,h3⟩;exact ⟨⟨h1,h2⟩,h3⟩
   have hne1:u.a ≠ a:=fun e=>hne (by simp [e])
   have hne2:u.a ∉ D:=fun h=>hne (by simp [h])
   have k1:=F.keep u hu huf hne1;have hx:u.a ∈ A6a L1:=(F.ads _).2 ⟨B4a.2 ⟨u,hu,huf,rfl⟩,hne1⟩;obtain ⟨v,hv,hvf,hva⟩:=B4a.1 hx;have hm:=hp.lay.mem hu;have ek:v.k=u.k:=by
    rw [((F.parts.ok v hv).cell hvf).2,((hp.ok u hu).cell huf).2,hva,k1 _ (H0c _) (by omega)]
   rw [g8 v hv hvf (by rw [hva];exact hne2) j (by omega) (by omega),k1 j h1 h2]
theorem Q5a {f:Nat->Int} {z:List Int} (p:Nat->Bool):∀ T:List Nat,widths f z (T.filter p)<=widths f z T
 | []=>H0c _
 | a :: r=>by
  have:=Q5a (f:=f) (z:=z) p r;rw [B3c]
  split
  . unfold widths;omega
  rw [show widths f z (a :: r)=wz z (f a)+widths f z r from rfl];omega
theorem m7a {f:Nat->Int} {z:List Int} (a:Nat) (p:Nat->Bool):∀ T:List Nat,cnt f z a T=cnt f z a (T.filter p)+cnt f z a (T.filter fun b=>!p b)
 | []=>rfl
 | b :: r=>by
  have:=m7a (f:=f) (z:=z) a p r;rw [B3c,B3c]
  cases hb:p b
  . simp only [x6b,H1c,E2c,H2c];rw [show cnt f z a (b :: r)=(kz f z b).count (a:Int)+cnt f z a r from rfl,show ∀ l,cnt f z a (b :: l)=(kz f z b).count (a:Int)+cnt f z a l from fun _=>rfl];omega
  simp only [F2c,x6b,H1c,H2c];rw [show cnt f z a (b :: r)=(kz f z b).count (a:Int)+cnt f z a r from rfl,show ∀ l,cnt f z a (b :: l)=(kz f z b).count (a:Int)+cnt f z a l from fun _=>rfl];omega
theorem Cells.sub {f:Nat->Int} {Lv Lv':List Nat} (h:Cells f z o Lv) (hs:∀ a ∈ Lv',a ∈ Lv) (hk:∀ a ∈ Lv',∀ b ∈ Lv,(b:Int) ∈ kz f z a->b ∈ Lv'):Cells f z o Lv' where
 tags a ha:=h.tags a (hs a ha)
 ends a ha:=h.ends a (hs a ha)
 kids a ha x hx:=by
  obtain ⟨b,hb,rfl,hr⟩:=h.kids a (hs a ha) x hx;exact ⟨b,hk a ha b hb hx,rfl,hr⟩
 flat a ha:=h.flat a (hs a ha)
 one a ha b hb:=h.one a (hs a ha) b (hs b hb)
theorem Wf.J8b {ch:Nat->List Nat} (h:Wf S B L ch):∃ T,S.live=some T/\T.Pairwise (· < ·)/\(∀ a ∈ T,a ∈ S.taken)/\(∀ a ∈ S.taken,0 < ow S.words (a+2)->a ∈ T)/\(∀ a ∈ T,∀ b:Nat,(b:Int) ∈ kz (ow S.words) S.sizes a->b ∈ T) /\
    ∀ X:List Nat,(∀ a ∈ S.taken,0 < ow S.words (a+2)->a ∈ X)->(∀ a ∈ X,∀ b:Nat,(b:Int) ∈ kz (ow S.words) S.sizes a->b ∈ X) -> ∀ a ∈ T,a ∈ X:=by
  obtain ⟨T,hT⟩:=M5a h;obtain ⟨R,hR,h1,h2,h3⟩:=Hs.u9a hT;have hr:=Hs.U6a hR;have root:∀ x,x ∈ R ↔ x ∈ S.taken/\0 < ow S.words (x+2):=fun x=>by
   rw [hr x];constructor
   . rintro ⟨k1,v,k2,k3⟩;refine ⟨k1, ?_⟩;rw [(ow_rd k2).1];exact k3
   rintro ⟨k1,k2⟩;exact ⟨k1,_,F7a (by have:=h.part k1;omega),k2⟩
  have kid:∀ a ∈ S.taken,∀ b,S.Kid a b ↔ (b:Int) ∈ kz (ow S.words) S.sizes a:=fun a ha b=>by
   obtain ⟨r,q1,q2,q3⟩:=C4b (l:=kz (ow S.words) S.sizes a) fun x hx=>by
    obtain ⟨b,_,e,_⟩:=h.cells.kids a ha x hx;exact ⟨b,e⟩
   constructor
   . rintro ⟨ks,l,e1,e2,hb⟩;rw [h.U1b ha] at e1
     cases e1
     rw [q1] at e2
     cases e2
     exact (q3 b).1 hb
   intro hb;exact ⟨_,r,h.U1b ha,q1,(q3 b).2 hb⟩
  have inT:∀ a,S.Reach R a->a ∈ S.taken:=fun a ha=>by
   induction ha with
   | root hx=>exact ((root _).1 hx).1
   | step _ hk ih=>
    obtain ⟨b,hb,e,_⟩:=h.cells.kids _ ih _ ((kid _ ih _).1 hk);rw [show _=b from Int.ofNat.inj e];exact hb
  refine ⟨T,hT,h1,fun a ha=>inT a ((h2 a).1 ha),fun a ha hp=>(h2 a).2 (.root ((root a).2 ⟨ha,hp⟩)),fun a ha b hb=>?_,fun X x1 x2 a ha=>?_⟩
  . have ha':=(h2 a).1 ha;exact (h2 b).2 (.step ha' ((kid a (inT a ha') b).2 hb))
  have ha':=(h2 a).1 ha;clear ha
  induction ha' with
  | root hx=>exact x1 _ ((root _).1 hx).1 ((root _).1 hx).2
  | step hk0 hk ih=>exact x2 _ ih _ ((kid _ (inT _ hk0) _).1 hk)
structure Coll (S S':Hs) (T:List Nat):Prop where
 sizes:S'.sizes=S.sizes
 order:S'.order=S.order
 len:S'.words.length=S.words.length
 taken:S'.taken=S.taken.filter T.contains
 old:Same (ow S.words) (ow S'.words) S.sizes S'.taken
 hold:∀ b ∈ S'.taken,ow S'.words (b+2)=ow S.words (b+2)
theorem M7a {ch:Nat->List Nat} (h:Wf S B L ch) (hT:S.live=some T) :
    ∃ S' L',S.collect=some ((S.taken.filter fun a=>!T.contains a).length,S')/\Coll S S' T/\Wf S' B L' (fun c=>(ch c).filter T.contains):=by
  obtain ⟨T',hT',t1,t2,t3,t4,_⟩:=h.J8b;rw [hT] at hT'
  cases hT'
  have hlo:=h.lo;have hhi:=h.hi;have hm16:∀ c,c < 16 -> ∀ a ∈ ch c,a ∈ S.taken:=fun c hc a ha=>((h.chains.mem c hc a).1 ha).1
  obtain ⟨W1,u1,u2,u3,u4⟩:=S7a T S.fuel (fun c=>if c < 16 then ch c else []) (fun c c' a ha ha'=>by
   split at ha
   . rename_i hc
     split at ha'
     . rename_i hc';exact ((h.chains.mem c hc a).1 ha).2.symm.trans ((h.chains.mem c' hc' a).1 ha').2
     cases ha'
   . cases ha) (fun c hc=>by simp only [H5c hc];exact h.chains.nodup c hc) (List.range 16) S.words List.nodup_range (by omega) (fun c hc=>by
   have hc:c < 16:=by simpa using hc
   simp only [H5c hc];refine ⟨hc,h.chains.path c hc, ?_,fun a ha=>?_⟩
   . have:=C4a (h.chains.nodup c hc) (hm16 c hc);have:=h.few;unfold Hs.fuel;omega
   . have:=h.part (hm16 c hc a ha);omega)
  have u4':∀ j,16<=j->(∀ a ∈ S.taken,j ≠ a+3)->ow W1 j=ow S.words j:=fun j hj hn=>u4 j fun c hc=>by
   have hc:c < 16:=by simpa using hc
   simp only [H5c hc];exact ⟨by omega,fun a ha=>hn a (hm16 c hc a ha)⟩
  have U:∀ b ∈ S.taken,∀ i,i < wz S.sizes (ow S.words b)->i ≠ 3->ow W1 (b+i)=ow S.words (b+i):=fun b hb i hi h3=>by
   have:=h.part hb;exact u4' _ (by omega) fun a ha=>h.ne hb ha hi (by have:=h.part ha;omega) (.inr h3)
  have US:Same (ow S.words) (ow W1) S.sizes S.taken:=fun b hb=>by
   have:=h.part hb;refine ⟨by simpa using U b hb 0 (by omega) (by omega),fun i hi=>?_⟩;have:=U b hb (4+i) (by omega) (by omega);rw [<- F0c] at this;exact this
  generalize hD:S.taken.filter (fun a=>!T.contains a)=D;have mD:∀ a,a ∈ D ↔ a ∈ S.taken/\a ∉ T:=fun a=>by rw [<- hD];simp
  obtain ⟨W2,v1,v2,v3,v4⟩:=b1a h D W1 (fun a ha=>((mD a).1 ha).1) u2 US (fun b hb=>by
   have h1:=h.h7a hb;have h2:=Q5a (f:=ow S.words) (z:=S.sizes) (fun a=>!T.contains a) S.taken;rw [hD] at h2;have h3:=h.Q4a;rw [U b hb 1 (by have:=h.part hb;omega) (by omega)];omega)
  have V:∀ b ∈ S.taken,∀ i,i < wz S.sizes (ow S.words b)->i ≠ 1->ow W2 (b+i)=ow W1 (b+i):=fun b hb i hi h1=>v3 _ fun c hc=>h.ne hb hc hi (by have:=h.part hc;omega) (.inr h1)
  have FRE:∀ t ∈ L,t.fr=true -> ∀ j,t.a<=j->j < t.a+t.k->ow W2 j=ow S.words j:=fun t ht hf j h1 h2=>by
   have hm:=h.parts.lay.mem ht;rw [v3 j fun b hb=>?_,u4' j (by omega) fun b hb=>?_]
   . have:=h.apart hb ht hf;have:=h.part hb;omega
   have:=h.apart hb ht hf;have:=h.part hb;omega
  have P2:Parts (ow W2) S.sizes L S.words.length:=by
   refine h.parts.congr ?_ (fun t ht=>?_) FRE
   . rw [v3 _ fun b hb=>by have:=h.part hb;omega,u4' _ (by omega) fun b hb=>by have:=h.part hb;omega]
   cases hf:t.fr with
   | true=>exact FRE t ht hf _ (H0c _) (by have:=h.parts.lay.mem ht;omega)
   | false=>
    have hb:t.a ∈ S.taken:=by rw [h.taken];exact B4a.2 ⟨t,ht,hf,rfl⟩
    have hp:=h.part hb;have e1:=V t.a hb 0 (by omega) (by omega);have e2:=U t.a hb 0 (by omega) (by omega);simp only [G0c] at e1 e2;rw [e1,e2]
  obtain ⟨S3,L3,w1,w2,w3,w4,w5,w6,w7,w8,w9⟩:=n9a D { S with words:=W2 } L h.fr.toFr (by show W2.length<=_;omega) (by show Parts (ow W2) S.sizes L W2.length;rw [v2];exact P2) (fun a ha=>by rw [<- h.taken];exact ((mD a).1 ha).1) (by rw [<- hD];exact (K7a h.up).filter _) (K7a h.up);have w2:S3.sizes=S.sizes:=w2;have w3:S3.order=S.order:=w3;have w4:S3.words.length=S.words.length:=w4.trans v2;have w5:S3.taken=S.taken.filter (fun b=>!D.contains b):=w5;have w8:∀ j,j < 16->ow S3.words j=ow W2 j:=w8
  have w9:∀ t ∈ L,t.fr=false->t.a ∉ D -> ∀ j,t.a<=j->j < t.a+t.k->ow S3.words j=ow W2 j:=w9
  have w6:Parts (ow S3.words) S.sizes L3 S.words.length:=by
   have:Parts (ow S3.words) S.sizes L3 W2.length:=w6
   rwa [v2] at this
  have eT:S3.taken=S.taken.filter T.contains:=by
   rw [w5];apply y4b;intro b hb;rw [D5c];simp [mD,hb]
  have m3:∀ b,b ∈ S3.taken ↔ b ∈ S.taken/\b ∈ T:=fun b=>by rw [eT];simp
  have K:∀ b ∈ S3.taken,∀ i,i < wz S.sizes (ow S.words b)->ow S3.words (b+i)=ow W2 (b+i):=fun b hb i hi=>by
   obtain ⟨h1,h2⟩:=(m3 b).1 hb;exact w9 _ (h.part h1).1 rfl (fun hm=>((mD b).1 hm).2 h2) _ (by simp) (by simpa using hi)
  have X:∀ b ∈ S3.taken,∀ i,i < wz S.sizes (ow S.words b)->i ≠ 1->i ≠ 3->ow S3.words (b+i)=ow S.words (b+i):=fun b hb i hi h1 h3=>by
   have hb':=((m3 b).1 hb).1;rw [K b hb i hi,V b hb' i hi h1,U b hb' i hi h3]
  have SM:Same (ow S.words) (ow S3.words) S.sizes S3.taken:=fun b hb=>by
   have:=h.part ((m3 b).1 hb).1;refine ⟨by simpa using X b hb 0 (by omega) (by omega) (by omega),fun i hi=>?_⟩;have:=X b hb (4+i) (by omega) (by omega) (by omega);rw [<- F0c] at this;exact this
  have HO:∀ b ∈ S3.taken,ow S3.words (b+2)=ow S.words (b+2):=fun b hb=>X b hb 2 (by have:=h.part ((m3 b).1 hb).1;omega) (by omega) (by omega)
  refine ⟨S3,L3, ?_,⟨w2,w3,w4,eT,SM,HO⟩, ?_⟩
  . unfold Hs.collect;rw [hT];have hu:S.unlink T=some { S with words:=W1 }:=by
     unfold Hs.unlink;rw [u1];rfl
    simp only [v9b,B5c,hu];rw [hD,v1];simp only [B5c,w1]
  exact
  { fr:=by rw [w2,w3];exact h.fr
    lo:=by rw [w4];exact h.lo
    hi:=by rw [w4];exact h.hi
    bd:=h.bd
    parts:=by rw [w2,w4];exact w6
    taken:=by
     refine S1b (by rw [eT];exact h.up.filter _) (f2a w6.lay) fun b=>?_
     rw [m3,w7,<- h.taken,mD];constructor
     . rintro ⟨h1,h2⟩;exact ⟨h1,fun h3=>h3.2 h2⟩
     rintro ⟨h1,h2⟩;refine ⟨h1, ?_⟩;apply r0b;intro h3;exact h2 ⟨h1,h3⟩
    chains:=by
     rw [w2];refine ⟨fun c hc=>?_,fun c hc=>(h.chains.nodup c hc).filter _,fun c hc a=>?_⟩
     . have hp:=u3 c (by simpa using hc);simp only [H5c hc] at hp;refine hp.congr ?_ fun a ha=>?_
       . rw [w8 c hc,v3 c fun b hb=>by have:=h.part hb;omega]
       obtain ⟨ha1,ha2⟩:=C0c.1 ha;have ha3:=hm16 c hc a ha1;have ha4:a ∈ S3.taken:=(m3 a).2 ⟨ha3,by simpa using ha2⟩;have:=h.part ha3;rw [K a ha4 3 (by omega),V a ha3 3 (by omega) (by omega)]
     rw [C0c,h.chains.mem c hc a,m3];constructor
     . rintro ⟨⟨h1,h2⟩,h3⟩;have hm:a ∈ S3.taken:=(m3 a).2 ⟨h1,by simpa using h3⟩;refine ⟨⟨h1,by simpa using h3⟩, ?_⟩;rw [(SM a hm).1,SM.fz_ hm];exact h2
     rintro ⟨⟨h1,h3⟩,h2⟩;have hm:a ∈ S3.taken:=(m3 a).2 ⟨h1,h3⟩;rw [(SM a hm).1,SM.fz_ hm] at h2;exact ⟨⟨h1,h2⟩,by simpa using h3⟩
    cells:=by
     rw [w2,w3];exact SM.cells h.fr.toFr (h.cells.sub (fun a ha=>((m3 a).1 ha).1) fun a ha b hb hk=>(m3 b).2 ⟨hb,t4 a ((m3 a).1 ha).2 b hk⟩)
    uses:=fun b hb=>by
     have hb':=((m3 b).1 hb).1;rw [w2,K b hb 1 (by have:=h.part hb';omega),v4 b hb',U b hb' 1 (by have:=h.part hb';omega) (by omega),h.uses b hb',SM.cnt_ b fun x hx=>hx,eT];have:=m7a (f:=ow S.words) (z:=S.sizes) b T.contains S.taken;rw [hD] at this;omega
    holds:=fun b hb=>by
     rw [HO b hb];exact h.holds b ((m3 b).1 hb).1 }
end Hp
namespace Hp
def place (f:Nat->Int) (z:List Int):Nat->List Nat->Nat->Nat
 | _,[],_=>0
 | s,a :: r,b=>if b=a then s else place f z (s+wz z (f a)) r b
theorem f8a {f:Nat->Int} {z:List Int}:∀ {T:List Nat} {s b:Nat},b ∈ T->s<=place f z s T b/\place f z s T b+wz z (f b)<=s+widths f z T
 | [],_,_,h=>by cases h
 | a :: r,s,b,h=>by
  unfold place widths
  by_cases e:b=a
  . subst e;rw [H5c rfl];omega
  rw [H4c e];have hr:b ∈ r:=by
   rcases E6c.1 h with h | h
   . exact absurd h e
   exact h
  have:=f8a (f:=f) (z:=z) (s:=s+wz z (f a)) hr;omega
theorem s7a {f:Nat->Int} {z:List Int}:∀ {T:List Nat} {s a b:Nat},T.Pairwise (· < ·)->a ∈ T->b ∈ T->a < b->place f z s T a+wz z (f a)<=place f z s T b
 | [],_,_,_,_,h,_,_=>by cases h
 | c :: r,s,a,b,hp,ha,hb,hab=>by
  obtain ⟨h1,h2⟩:=w3b.1 hp;have hbc:b ≠ c:=by
   rintro rfl
   rcases E6c.1 ha with e | e
   . omega
   have:=h1 a e;omega
  have hbr:b ∈ r:=by
   rcases E6c.1 hb with e | e
   . exact absurd e hbc
   exact e
  by_cases e:a=c
  . subst e;rw [show place f z s (a :: r) a=s by simp [place],show place f z s (a :: r) b=place f z (s+wz z (f a)) r b by simp [place,hbc]];exact (f8a hbr).1
  have har:a ∈ r:=by
   rcases E6c.1 ha with e' | e'
   . exact absurd e' e
   exact e'
  rw [show place f z s (c :: r) a=place f z (s+wz z (f c)) r a by simp [place,e],show place f z s (c :: r) b=place f z (s+wz z (f c)) r b by simp [place,hbc]];exact s7a h2 har hbr hab
theorem P7a {S:Hs} {B:Nat} {L:List Tl} {ch:Nat->List Nat} (h:Wf S B L ch):∀ (r:List Nat) (W:List Int) (next:Nat) (M:List (Nat × Int)),r.Pairwise (· < ·)->(∀ a ∈ r,a ∈ S.taken)->J6a M->next+widths (ow S.words) S.sizes r<=W.length ->
    ∃ W' M',Hs.moves S r W next M=some (W',next+widths (ow S.words) S.sizes r,M')/\W'.length=W.length/\J6a M'/\(∀ b,getI b M'=if b ∈ r then some ((place (ow S.words) S.sizes next r b:Nat):Int) else getI b M) /\
     (∀ b ∈ r,∀ i,i < wz S.sizes (ow S.words b)->ow W' (place (ow S.words) S.sizes next r b+i)=ow S.words (b+i)) /\ ∀ j,(j < next \/ next+widths (ow S.words) S.sizes r<=j)->ow W' j=ow W j
  | [],W,next,M,_,_,hM,_=>⟨W,M,by simp [Hs.moves,widths],rfl,hM,by simp,by simp,fun _ _=>rfl⟩
  | a :: r,W,next,M,hp,hr,hM,hl=>by
   obtain ⟨p1,p2⟩:=w3b.1 hp;have ha:=hr a (by simp);have pa:=h.part ha;rw [show widths (ow S.words) S.sizes (a :: r)=wz S.sizes (ow S.words a)+widths (ow S.words) S.sizes r from rfl] at hl ⊢;have hs:=f9b (W:=S.words) (i:=a) (n:=wz S.sizes (ow S.words a)) pa.2.2.1;obtain ⟨W1,e1,l1,g1⟩:=i0b (W:=W) (l:=cut (ow S.words) a (wz S.sizes (ow S.words a))) (i:=next) (by rw [E2a];omega);rw [E2a] at g1;obtain ⟨W',M',v1,v2,v3,v4,v5,v6⟩:=P7a h r W1 (next+wz S.sizes (ow S.words a)) (putI a (next:Int) M) p2 (fun b hb=>hr b (by simp [hb])) (M6a hM) (by omega);have hna:a ∉ r:=fun hm=>by have:=p1 a hm;omega
   refine ⟨W',M', ?_,v2.trans l1,v3,fun b=>?_,fun b hb i hi=>?_,fun j hj=>?_⟩
   . unfold Hs.moves;rw [h.wide_ ha];simp only [v9b,B5c,hs,e1];rw [v1,F0c]
   . rw [v4,M4a hM]
     by_cases e:b=a
     . subst e;rw [H4c hna,H5c rfl,H5c (by simp)];simp [place]
     rw [H4c e]
     by_cases hb:b ∈ r
     . rw [H5c hb,H5c (by simp [hb])];simp [place,e]
     rw [H4c hb,H4c (by simp [e,hb])]
   . by_cases e:b=a
     . subst e;rw [show place (ow S.words) S.sizes next (b :: r) b=next by simp [place],v6 _ (.inl (by omega)),g1,H5c (by omega)];have:=I5a (f:=ow S.words) (i:=b) (n:=wz S.sizes (ow S.words b)) (k:=i) hi;rw [show next+i-next=i by omega,q1b,this];rfl
     have hb':b ∈ r:=by
      rcases E6c.1 hb with h' | h'
      . exact absurd h' e
      exact h'
     rw [show place (ow S.words) S.sizes next (a :: r) b=place (ow S.words) S.sizes (next+wz S.sizes (ow S.words a)) r b by simp [place,e]];exact v5 b hb' i hi
   rw [v6 j (by omega),g1,H4c (by omega)]
def to' (m:Nat->Nat) (x:Int):Int:=((m x.toNat:Nat):Int)
def nz (f:Nat->Int) (z:List Int) (m:Nat->Nat) (a:Nat):List Int:=if B1a (f a) then fz f z a else (fz f z a).map (to' m)
theorem Q0b (hz:Fr S.sizes) {tt K:Nat} (hot:okTag S.sizes t=true) (hte:B1a t=false) (hK:wz S.sizes t=4+K) (m:Nat->Nat) (n:Nat):∀ (j:Nat) (W:List Int),j+n=K->tt+4+K<=W.length->ow W tt=t ->
    (∀ i,j<=i->i < K -> ∃ k:Nat,ow W (tt+4+i)=(k:Int)/\getI k M=some ((m k:Nat):Int)) ->
    ∃ W',Hs.R2b S M tt n j W=some W'/\W'.length=W.length /\ ∀ x,ow W' x=if tt+4+j<=x/\x < tt+4+K then to' m (ow W x) else ow W x:=by
  induction n with
  | zero=>
   intro j W hj _ _ _;exact ⟨W,rfl,rfl,fun x=>by rw [H4c (by omega)]⟩
  | succ n ih=>
   intro j W hj hl ht h;obtain ⟨k,e,hk⟩:=h j (H0c _) (by omega);obtain ⟨W1,e1,l1,g1⟩:=J8a (W:=W) (i:=tt+4+j) ((m k:Nat):Int) (by omega);obtain ⟨W',w1,w2,w3⟩:=ih (j+1) W1 (by omega) (by omega) (by rw [g1,H4c (by omega)];exact ht) (fun i h1 h2=>by
    rw [g1,H4c (by omega)];exact h i (by omega) h2)
   refine ⟨W', ?_,w2.trans l1,fun x=>?_⟩
   . unfold Hs.R2b;rw [Y5a (by omega) e];have hkd:=h2a (S:={ S with words:=W }) (a:=tt) hz (by show okTag S.sizes (ow W tt)=true;rw [ht];exact hot) (by show tt+wz S.sizes (ow W tt)<=W.length;rw [ht];omega);have hkl:(kz (ow W) S.sizes tt).length=K:=by
      unfold kz;rw [ht,hte];simp only [x6b,H1c];rw [D7a,ht];omega
     simp only [v9b,B5c,hkd,hkl];rw [H5c (by omega),hk];simp only [B6c,e1,B5c];exact w1
   rw [w3,g1]
   by_cases hx:x=tt+4+j
   . subst hx;rw [H4c (by omega),H5c rfl,H5c (by omega),e];simp [to']
   rw [H4c hx]
   by_cases h2:tt+4+(j+1)<=x/\x < tt+4+K
   . rw [H5c h2,H5c (by omega)]
   rw [H4c h2,H4c (by omega)]
end Hp
namespace Hp
theorem b2b {f g:Nat->Int} (h:∀ k,k < n->f (i+k)=g (j+k)):cut f i n=cut g j n:=by
 unfold cut
 apply u7b
 intro k hk
 exact h k (by simpa using hk)
theorem W6a {x:Nat}:∀ {T:List Nat},(∀ y ∈ T,y < x)->Hs.insert x T=T ++ [x]
 | [],_=>rfl
 | y :: r,h=>by
  have:=h y (by simp);unfold Hs.insert;rw [H4c (by omega),H4c (by omega),W6a fun z hz=>h z (by simp [hz])];rfl
section
variable {S:Hs} {B:Nat} {L:List Tl} {ch:Nat->List Nat}
structure Mv (S:Hs) (m:Nat->Nat) (next:Nat) (d r:List Nat) (W:List Int) (cc:Nat->List Nat):Prop where
 len:W.length=S.words.length
 raw:∀ b ∈ r,∀ i,i < wz S.sizes (ow S.words b)->ow W (m b+i)=ow S.words (b+i)
 done:∀ b ∈ d,ow W (m b)=ow S.words b/\ow W (m b+1)=ow S.words (b+1)/\ow W (m b+2)=ow S.words (b+2)/\fz (ow W) S.sizes (m b)=nz (ow S.words) S.sizes m b
 path:∀ c,c < 16->Path (ow W) c (cc c)
 nd:∀ c,c < 16->(cc c).Nodup
 mem:∀ c,c < 16 -> ∀ x,x ∈ cc c ↔ ∃ b ∈ d,x=m b/\cz (ow S.words b) (nz (ow S.words) S.sizes m b)=c
 rest:∀ j,j=16 \/ next<=j->ow W j=0
theorem F9b (h:Wf S B L ch) (ha:a ∈ S.taken) (he:B1a (ow S.words a)=false) (hi:i < wz S.sizes (ow S.words a)-4):∃ k ∈ S.taken,ow S.words (a+4+i)=(k:Int):=by
 have hm:ow S.words (a+4+i) ∈ kz (ow S.words) S.sizes a:=by
  unfold kz;rw [he];simp only [x6b,H1c];exact a9a.2 ⟨i,hi,rfl⟩
 obtain ⟨b,hb,e,_⟩:=h.cells.kids a ha _ hm
 exact ⟨b,hb,e⟩
def ccOf (S:Hs) (m:Nat->Nat):List Nat->(Nat->List Nat)->Nat->List Nat
 | [],cc=>cc
 | a :: r,cc=>ccOf S m r (fun c'=>if c'=cz (ow S.words a) (nz (ow S.words) S.sizes m a) then m a :: cc c' else cc c')
theorem d4a (h:Wf S B L ch) {M:List (Nat × Int)} {m:Nat->Nat} {next:Nat} (hnext:next<=S.words.length) (hM:∀ b ∈ S.taken,getI b M=some ((m b:Nat):Int)) (hm1:∀ b ∈ S.taken,17<=m b/\m b+wz S.sizes (ow S.words b)<=next)
    (hm2:∀ a ∈ S.taken,∀ b ∈ S.taken,a < b->m a+wz S.sizes (ow S.words a)<=m b):∀ (r d:List Nat) (W:List Int) (cc:Nat->List Nat),(d ++ r).Pairwise (· < ·)->(∀ b ∈ d ++ r,b ∈ S.taken)->Mv S m next d r W cc ->
    ∃ W',Hs.d2a M { S with words:=W,taken:=d.map m } r=some { S with words:=W',taken:=(d ++ r).map m } /\ Mv S m next (d ++ r) [] W' (ccOf S m r cc)
  | [],d,W,cc,_,_,I=>⟨W,by simp [Hs.d2a],by simpa [ccOf] using I⟩
  | a :: r,d,W,cc,hp,hT,I=>by
   have ha:=hT a (by simp);have pa:=h.part ha;have qa:=hm1 a ha;have hhi:=h.hi;have mne:∀ b ∈ S.taken,b ≠ a->m b+wz S.sizes (ow S.words b)<=m a \/ m a+wz S.sizes (ow S.words a)<=m b:=fun b hb hne=>by
    rcases G3c b a with h1 | h1
    . exact .inl (hm2 b hb a ha h1)
    exact .inr (hm2 a ha b hb (by omega))
   have hda:∀ b ∈ d,b < a:=fun b hb=>by
    have:=(List.pairwise_append.1 hp).2.2 b hb a (by simp);exact this
   have hra:∀ b ∈ r,a < b:=fun b hb=>(w3b.1 (List.pairwise_append.1 hp).2.1).1 b hb
   have hdT:∀ b ∈ d,b ∈ S.taken:=fun b hb=>hT b (by simp [hb])
   have hrT:∀ b ∈ r,b ∈ S.taken:=fun b hb=>hT b (by simp [hb])
   have t0:ow W (m a)=ow S.words a:=by simpa using I.raw a (by simp) 0 (by omega)
   have hot:=h.cells.tags a ha;have hlen:=I.len
   -- the kids
   have hkd:Hs.kids { S with words:=W,taken:=Hs.insert (m a) (d.map m) } (m a)=some (kz (ow W) S.sizes (m a)):=h2a (S:={ S with words:=W,taken:=Hs.insert (m a) (d.map m) }) h.fr.toFr (by show okTag S.sizes (ow W (m a))=true;rw [t0];exact hot) (by show m a+wz S.sizes (ow W (m a))<=W.length;rw [t0];omega);obtain ⟨W1,e1,l1,g1,f1⟩:∃ W1,Hs.R2b { S with words:=W,taken:=Hs.insert (m a) (d.map m) } M (m a) (kz (ow W) S.sizes (m a)).length 0 W=some W1/\W1.length=W.length/\(∀ x,(x < m a+4 \/ m a+wz S.sizes (ow S.words a)<=x)->ow W1 x=ow W x)/\fz (ow W1) S.sizes (m a)=nz (ow S.words) S.sizes m a:=by
    have raw4:∀ i,i < wz S.sizes (ow S.words a)-4->ow W (m a+4+i)=ow S.words (a+4+i):=fun i hi=>by
     have:=I.raw a (by simp) (4+i) (by omega);rw [<- F0c,<- F0c] at this;exact this
    cases he:B1a (ow S.words a) with
    | true=>
     have e0:(kz (ow W) S.sizes (m a)).length=0:=by
      unfold kz;rw [t0,he];rfl
     rw [e0];refine ⟨W,rfl,rfl,fun _ _=>rfl, ?_⟩;unfold nz fz;rw [he,t0];simp only [H2c];exact b2b raw4
    | false=>
     have e0:(kz (ow W) S.sizes (m a)).length=wz S.sizes (ow S.words a)-4:=by
      unfold kz;rw [t0,he];simp only [x6b,H1c];rw [D7a,t0]
     rw [e0];obtain ⟨W1,e1,l1,g1⟩:=Q0b (S:={ S with words:=W,taken:=Hs.insert (m a) (d.map m) }) h.fr.toFr (M:=M) (tt:=m a) (K:=wz S.sizes (ow S.words a)-4) hot he (by show wz S.sizes _=_;omega) m (wz S.sizes (ow S.words a)-4) 0 W (by omega) (by omega) t0 (fun i _ hi=>by
      obtain ⟨k,hk,e⟩:=F9b h ha he hi;exact ⟨k,by rw [raw4 i hi,e],hM k hk⟩)
     refine ⟨W1,e1,l1,fun x hx=>by rw [g1,H4c (by omega)], ?_⟩;have t1:ow W1 (m a)=ow S.words a:=by rw [g1,H4c (by omega)];exact t0
     unfold nz;rw [he];simp only [x6b,H1c];unfold fz;rw [t1];unfold cut;rw [F8c];apply u7b;intro i hi;have hi:i < wz S.sizes (ow S.words a)-4:=by simpa using hi
     rw [g1,H5c (by omega),raw4 i hi];rfl
   have t1:ow W1 (m a)=ow S.words a:=by rw [g1 _ (by omega)];exact t0
   have hfd:Hs.fields { S with words:=W1,taken:=Hs.insert (m a) (d.map m) } (m a)=some (nz (ow S.words) S.sizes m a):=by
    rw [<- f1];exact j5a (S:={ S with words:=W1,taken:=Hs.insert (m a) (d.map m) }) h.fr.toFr (by show okTag S.sizes (ow W1 (m a))=true;rw [t1];exact hot) (by show m a+wz S.sizes (ow W1 (m a))<=W1.length;rw [t1];omega)
   have hnl:(nz (ow S.words) S.sizes m a).length<=12:=by
    rw [<- f1,D7a,t1];omega
   have hnb:∀ x ∈ nz (ow S.words) S.sizes m a,-1000000<=x/\x<=1000000:=fun x hx=>by
    unfold nz at hx
    cases he:B1a (ow S.words a) with
    | true=>
     rw [he] at hx;exact h.H7b ha x (by simpa using hx)
    | false=>
     rw [he] at hx;simp only [x6b,H1c,F7c] at hx;obtain ⟨y,hy,rfl⟩:=hx;obtain ⟨i,hi,rfl⟩:=a9a.1 hy;obtain ⟨k,hk,e⟩:=F9b h ha he hi;rw [e];have:=hm1 k hk;unfold to';rw [z5b];omega
   have htg:=h.W0a ha;have hck:=q5a (t:=ow S.words a) (l:=nz (ow S.words) S.sizes m a) (by omega) hnb hnl;have hc16:=P0a (ow S.words a) (nz (ow S.words) S.sizes m a);generalize hc0:cz (ow S.words a) (nz (ow S.words) S.sizes m a)=c at *;obtain ⟨W2,e2,l2,g2⟩:=J8a (W:=W1) (i:=m a+3) (ow W1 c) (by omega);obtain ⟨W3,e3,l3,g3⟩:=J8a (W:=W2) (i:=c) ((m a:Nat):Int) (by omega);have G:∀ j,(j < m a \/ m a+wz S.sizes (ow S.words a)<=j)->j ≠ c->ow W3 j=ow W j:=fun j h1 h2=>by
    rw [g3,H4c h2,g2,H4c (by omega),g1 j (by omega)]
   have GA:∀ i,i < 3->ow W3 (m a+i)=ow S.words (a+i):=fun i hi=>by
    rw [g3,H4c (by omega),g2,H4c (by omega),g1 _ (by omega)];exact I.raw a (by simp) i (by omega)
   have GF:fz (ow W3) S.sizes (m a)=nz (ow S.words) S.sizes m a:=by
    rw [<- f1];have e0:ow W3 (m a)=ow W1 (m a):=by rw [g3,H4c (by omega),g2,H4c (by omega)]
    unfold fz;rw [e0];exact U7a fun k hk=>by rw [g3,H4c (by omega),g2,H4c (by omega)]
   have I':Mv S m next (d ++ [a]) r W3 (fun c'=>if c'=c then m a :: cc c' else cc c'):=by
    refine ⟨by omega,fun b hb i hi=>?_,fun b hb=>?_,fun c' hc'=>?_,fun c' hc'=>?_,fun c' hc' x=>?_,fun j hj=>?_⟩
    . have hb':=hrT b hb;have:=mne b hb' (by have:=hra b hb;omega);have:=hm1 b hb';rw [G _ (by omega) (by omega)];exact I.raw b (by simp [hb]) i hi
    . rcases C4c.1 hb with hb | hb
      . have hb':=hdT b hb;have hs:=mne b hb' (by have:=hda b hb;omega);have:=hm1 b hb';have pb:=h.part hb';obtain ⟨d1,d2,d3,d4⟩:=I.done b hb;have e0:ow W3 (m b)=ow W (m b):=G _ (by omega) (by omega);refine ⟨e0.trans d1,(G _ (by omega) (by omega)).trans d2,(G _ (by omega) (by omega)).trans d3, ?_⟩;rw [<- d4];unfold fz;rw [e0];exact U7a fun k hk=>G _ (by rw [d1] at hk;omega) (by omega)
      have:b=a:=by simpa using hb
      subst this;exact ⟨by simpa using GA 0 (by omega),GA 1 (by omega),GA 2 (by omega),GF⟩
    . have h3:∀ x ∈ cc c',ow W3 (x+3)=ow W (x+3):=fun x hx=>by
        obtain ⟨b,hb,rfl,_⟩:=(I.mem c' hc' x).1 hx;have hb':=hdT b hb;have hs:=mne b hb' (by have:=hda b hb;omega);have:=hm1 b hb';have pb:=h.part hb';exact G _ (by omega) (by omega)
      by_cases e:c'=c
      . subst e;simp only [H2c];refine ⟨by rw [g3,H5c rfl],by omega,(I.path c' hc').move ?_ h3⟩;rw [g3,H4c (by omega),g2,H5c rfl,g1 _ (by omega)]
      simp only [H4c e];exact (I.path c' hc').congr (G _ (by omega) e) h3
    . by_cases e:c'=c
      . subst e;simp only [H2c];refine C2c.2 ⟨fun hx=>?_,I.nd c' hc'⟩;obtain ⟨b,hb,e',_⟩:=(I.mem c' hc' _).1 hx;have hb':=hdT b hb;have hs:=mne b hb' (by have:=hda b hb;omega);have pb:=h.part hb';omega
      simp only [H4c e];exact I.nd c' hc'
    . have hsplit:(∃ b ∈ d ++ [a],x=m b/\cz (ow S.words b) (nz (ow S.words) S.sizes m b)=c') ↔ (∃ b ∈ d,x=m b/\cz (ow S.words b) (nz (ow S.words) S.sizes m b)=c') \/ (x=m a/\c=c'):=by
        constructor
        . rintro ⟨b,hb,h1,h2⟩
          rcases C4c.1 hb with hb | hb
          . exact .inl ⟨b,hb,h1,h2⟩
          have:b=a:=by simpa using hb
          subst this;exact .inr ⟨h1,by rw [<- hc0];exact h2⟩
        rintro (⟨b,hb,h1,h2⟩ | ⟨h1,h2⟩)
        . exact ⟨b,by simp [hb],h1,h2⟩
        exact ⟨a,by simp,h1,by rw [hc0];exact h2⟩
      rw [hsplit,<- I.mem c' hc' x]
      by_cases e:c'=c
      . subst e;simp only [H2c,E6c,and_true];exact Or.comm
      simp only [H4c e];constructor
      . exact .inl
      rintro (h1 | ⟨_,h2⟩)
      . exact h1
      exact absurd h2.symm e
    rw [G j (by omega) (by omega)];exact I.rest j hj
   obtain ⟨W',w1,w2⟩:=d4a h hnext hM hm1 hm2 r (d ++ [a]) W3 _ (by simpa using hp) (by simpa using hT) I';refine ⟨W', ?_,by unfold ccOf;rw [hc0];simpa using w2⟩
   have hins:Hs.insert (m a) (d.map m)=(d ++ [a]).map m:=by
    rw [W6a fun y hy=>?_]
    . simp
    obtain ⟨b,hb,rfl⟩:=F7c.1 hy;have:=hm2 b (hdT b hb) a ha (hda b hb);have:=h.part (hdT b hb);omega
   rw [show d ++ a :: r=(d ++ [a]) ++ r by simp];unfold Hs.d2a;rw [hM a ha];simp only [B6c,v9b];rw [show adr ((m a:Nat):Int)=some (m a) by simp [adr]];simp only [B5c];rw [H4c (by omega)];rw [hkd];simp only [B5c,e1];rw [show Hs.tag { S with words:=W1,taken:=Hs.insert (m a) (d.map m) } (m a)=some (ow S.words a) by rw [G7b (by show m a < W1.length;omega)];exact congrArg some t1,hfd];simp only [B5c,hck];rw [F7a (by omega:c < W1.length)];simp only [B5c,e2,e3];rw [hins];exact w1
end
end Hp
namespace Hp
theorem y3a {f:Nat->Int} {z:List Int}:∀ {T:List Nat} {s:Nat},T.Pairwise (· < ·)->(∀ b ∈ T,3<=wz z (f b))->Lay s (T.map fun b=>(⟨place f z s T b,wz z (f b),false⟩:Tl)) (s+widths f z T)
 | [],s,_,_=>by simp [Lay,widths]
 | a :: r,s,hp,h=>by
  obtain ⟨p1,p2⟩:=w3b.1 hp;refine ⟨by simp [place],h a (by simp), ?_⟩;have ih:=y3a (f:=f) (z:=z) (s:=s+wz z (f a)) p2 fun b hb=>h b (by simp [hb])
  have e:(r.map fun b=>(⟨place f z s (a :: r) b,wz z (f b),false⟩:Tl))=r.map fun b=>(⟨place f z (s+wz z (f a)) r b,wz z (f b),false⟩:Tl):=by
   apply u7b;intro b hb;have:b ≠ a:=by have:=p1 b hb;omega
   simp [place,this]
  show Lay (s+wz z (f a)) (List.map _ r) _;rw [e,show s+widths f z (a :: r)=s+wz z (f a)+widths f z r by simp [widths,F0c]];exact ih
theorem G8b {f:Nat->Int} {z:List Int}:∀ {s n:Nat} {L:List Tl},Lay s L n->(∀ t ∈ L,t.fr=false->t.k=wz z (f t.a))->s+widths f z (A6a L)=n \/ s+widths f z (A6a L)+3<=n
 | s,n,[],h,_=>.inl (by have:s=n:=h;simpa [A6a,widths] using this)
 | s,n,t :: r,h,hk=>by
  obtain ⟨h1,h2,h3⟩:=h;have ih:=G8b h3 fun u hu=>hk u (by simp [hu])
  have e:A6a (t :: r)=(if t.fr then [] else [t.a]) ++ A6a r:=by
   cases hf:t.fr <;> simp [A6a,hf]
  rw [e,Q1a]
  cases hf:t.fr
  . have:=hk t (by simp) hf;simp only [x6b,H1c,widths];omega
  simp only [H2c,widths];omega
theorem I1b (n j:Nat):ow (List.replicate n (0:Int)) j=0:=by
 unfold ow
 rw [q1b,r6b]
 split <;> rfl
structure Y7b (S S':Hs) (M:List (Nat × Int)) (m:Nat->Nat):Prop where
 sizes:S'.sizes=S.sizes
 order:S'.order=S.order
 len:S'.words.length=S.words.length
 taken:S'.taken=S.taken.map m
 up:J6a M
 get:∀ b,getI b M=if b ∈ S.taken then some ((m b:Nat):Int) else none
 tag:∀ b ∈ S.taken,ow S'.words (m b)=ow S.words b
 hold:∀ b ∈ S.taken,ow S'.words (m b+2)=ow S.words (b+2)
 fs:∀ b ∈ S.taken,fz (ow S'.words) S.sizes (m b)=nz (ow S.words) S.sizes m b
 inj:∀ a ∈ S.taken,∀ b ∈ S.taken,m a=m b->a=b
theorem X1b {m:Nat->Nat} {T:List Nat} (hi:∀ a ∈ T,∀ b ∈ T,m a=m b->a=b):∀ {l l':List Int},(∀ x ∈ l,∃ k ∈ T,x=(k:Int))->(∀ x ∈ l',∃ k ∈ T,x=(k:Int))->l.map (to' m)=l'.map (to' m)->l=l'
 | [],[],_,_,_=>rfl
 | [],_ :: _,_,_,h=>by simp at h
 | _ :: _,[],_,_,h=>by simp at h
 | x :: l,y :: l',h1,h2,h=>by
  simp only [E7c,D6c] at h;obtain ⟨a,ha,rfl⟩:=h1 x (by simp);obtain ⟨b,hb,rfl⟩:=h2 y (by simp);have e:m a=m b:=by
   have:=h.1;unfold to' at this;rw [z5b,z5b] at this;omega
  rw [hi a ha b hb e,X1b hi (fun z hz=>h1 z (by simp [hz])) (fun z hz=>h2 z (by simp [hz])) h.2]
theorem z7a {m:Nat->Nat} {T:List Nat} (hi:∀ a ∈ T,∀ b ∈ T,m a=m b->a=b) {b:Nat} (hb:b ∈ T):∀ {l:List Int},(∀ x ∈ l,∃ k ∈ T,x=(k:Int))->(l.map (to' m)).count ((m b:Nat):Int)=l.count (b:Int)
 | [],_=>rfl
 | x :: l,h=>by
  obtain ⟨a,ha,rfl⟩:=h x (by simp);rw [E7c,C3c,C3c,z7a hi hb fun z hz=>h z (by simp [hz])];have:(to' m (a:Int) == ((m b:Nat):Int))=((a:Int) == (b:Int)):=by
   unfold to';rw [z5b,D5c];simp only [beq_iff_eq];constructor
   . intro e;rw [hi a ha b hb (by omega)]
   intro e;rw [show a=b by omega]
  rw [this]
theorem R7b {m:Nat->Nat} (hi:∀ a ∈ T,∀ b ∈ T,m a=m b->a=b) (h:∀ x ∈ l,∃ k ∈ T,x=(k:Int)) (ha:Hs.alike (l.map (to' m))=true):Hs.alike l=true:=by
 cases l with
 | nil=>rfl
 | cons x r=>
  obtain ⟨a,ha',rfl⟩:=h x (by simp);unfold Hs.alike at ha ⊢;rw [A7c] at ha ⊢;intro y hy;obtain ⟨b,hb,rfl⟩:=h y hy;have h1:=ha (to' m (b:Int)) (List.mem_map_of_mem hy);have h2:to' m (b:Int)=to' m (a:Int):=by simpa using h1
  unfold to' at h2;rw [z5b,z5b] at h2;have:=hi b hb a ha' (by omega);simp [this]
theorem W8a {f:Nat->Int} {l:Nat} {x:Int}:∀ {P:List Tl},(∀ t ∈ P,t.fr=false)->(B6a f l P x ↔ f l=x)/\B9a l P=l
 | [],_=>⟨Iff.rfl,rfl⟩
 | t :: r,h=>by
  have:=W8a (f:=f) (l:=l) (x:=x) (P:=r) fun u hu=>h u (by simp [hu])
  unfold B6a B9a;rw [h t (by simp)]
  simpa using this
theorem x3a:∀ {P:List Tl},(∀ t ∈ P,t.fr=false)->Sep P
 | [],_=>trivial
 | [_],_=>trivial
 | t :: u :: r,h=>⟨by rw [h t (by simp)];simp,x3a fun v hv=>h v (by simp [hv])⟩
theorem y0a {ch:Nat->List Nat} (h:Wf S B L ch):∃ M m S' L' ch',S.moved=some (M,S')/\Y7b S S' M m/\Wf S' B L' ch'/\(∃ P q,L'=P ++ q/\(∀ t ∈ P,t.fr=false)/\(q=[] \/ ∃ t,q=[t]/\t.fr=true))/\m=place (ow S.words) S.sizes 17 S.taken/\ch'=ccOf S m S.taken (fun _=>[])/\(∀ b ∈ S.taken,ow S'.words (m b+1)=ow S.words (b+1)) /\
    L'=(S.taken.map fun b=>(⟨m b,wz S.sizes (ow S.words b),false⟩:Tl)) ++ (if 17+widths (ow S.words) S.sizes S.taken < S.words.length then [⟨17+widths (ow S.words) S.sizes S.taken,S.words.length-(17+widths (ow S.words) S.sizes S.taken),true⟩] else []):=by
  have hlo:=h.lo;have hhi:=h.hi;have hw:=h.Q4a;have hup:=h.up;have hfs:17+widths (ow S.words) S.sizes S.taken=S.words.length \/ 17+widths (ow S.words) S.sizes S.taken+3<=S.words.length:=by
   rw [h.taken];exact G8b h.parts.lay fun t ht hf=>((h.parts.ok t ht).cell hf).2
  obtain ⟨W0,M,v1,v2,v3,v4,v5,v6⟩:=P7a h S.taken (List.replicate S.words.length 0) 17 [] hup (fun a ha=>ha) List.Pairwise.nil (by simp;omega);rw [t0b] at v2;have hin:=fun b (hb:b ∈ S.taken)=>f8a (f:=ow S.words) (z:=S.sizes) (s:=17) hb
  have hmup:=fun a (ha:a ∈ S.taken) b (hb:b ∈ S.taken)=>s7a (f:=ow S.words) (z:=S.sizes) (s:=17) hup ha hb
  have hlay:=y3a (f:=ow S.words) (z:=S.sizes) (s:=17) hup fun b hb=>by have:=h.part hb;omega
  generalize hm:place (ow S.words) S.sizes 17 S.taken=m at *;generalize hnx:17+widths (ow S.words) S.sizes S.taken=next at *;have hget:∀ b,getI b M=if b ∈ S.taken then some ((m b:Nat):Int) else none:=fun b=>by rw [v4];rfl
  have z0:∀ j,j < 17 \/ next<=j->ow W0 j=0:=fun j hj=>by rw [v6 j hj,I1b]
  have I0:Mv S m next [] S.taken W0 (fun _=>[]):=⟨v2,v5,by simp,fun c hc=>z0 c (.inl (by omega)),by simp,by simp,fun j hj=>z0 j (by omega)⟩
  have hm2:∀ a ∈ S.taken,∀ b ∈ S.taken,a < b->m a+wz S.sizes (ow S.words a)<=m b:=fun a ha b hb hab=>hmup a ha b hb hab
  obtain ⟨W1,w1,I⟩:=d4a h (M:=M) (m:=m) (next:=next) (by omega) (fun b hb=>by rw [hget,H5c hb]) (fun b hb=>hin b hb) hm2 S.taken [] W0 _ (by simpa using hup) (by simp) I0;simp only [C1c,F9c] at w1 I;generalize hcc:ccOf S m S.taken (fun _=>[])=cc at *;have hinj:∀ a ∈ S.taken,∀ b ∈ S.taken,m a=m b->a=b:=fun a ha b hb e=>by
   have pa:=h.part ha;have pb:=h.part hb
   rcases Nat.lt_trichotomy a b with h1 | h1 | h1
   . have:=hm2 a ha b hb h1;omega
   . exact h1
   have:=hm2 b hb a ha h1;omega
  have hI:=I.len
  -- the words at last
  obtain ⟨W2,hrun,l2,g2,g16,gn⟩:∃ W2,S.moved=some (M,{ S with words:=W2,taken:=S.taken.map m })/\W2.length=S.words.length/\(∀ j,j ≠ 16->j < next->ow W2 j=ow W1 j)/\(if next < S.words.length then ow W2 16=next/\ow W2 (next+1)=((S.words.length-next:Nat):Int) /\ ∀ j,next<=j->j ≠ next+1->ow W2 j=0 else ow W2 16=0)/\True:=by
   by_cases hlt:next < S.words.length
   . obtain ⟨Wa,ea,la,ga⟩:=J8a (W:=W1) (i:=16) (next:Int) (by omega);obtain ⟨Wb,eb,lb,gb⟩:=J8a (W:=Wa) (i:=next+1) ((W0.length:Int)-next) (by omega);refine ⟨Wb, ?_,by omega,fun j h1 h2=>by rw [gb,H4c (by omega),ga,H4c h1], ?_,trivial⟩
     . unfold Hs.moved;rw [v1];simp only [v9b,B5c];rw [w1];simp only [B5c];rw [H5c (by omega),ea];simp only [B5c];rw [eb];rfl
     rw [H5c hlt];have:=hin;refine ⟨by rw [gb,H4c (by omega),ga,H5c rfl],by rw [gb,H5c rfl];omega,fun j h1 h2=>?_⟩;rw [gb,H4c h2,ga,H4c (by omega)];exact I.rest j (.inr h1)
   refine ⟨W1, ?_,hI,fun _ _ _=>rfl, ?_,trivial⟩
   . unfold Hs.moved;rw [v1];simp only [v9b,B5c];rw [w1];simp only [B5c];rw [H4c (by omega)]
   rw [H4c hlt];exact I.rest 16 (.inl rfl)
  have D:∀ b ∈ S.taken,ow W2 (m b)=ow S.words b/\ow W2 (m b+1)=ow S.words (b+1)/\ow W2 (m b+2)=ow S.words (b+2)/\ow W2 (m b+3)=ow W1 (m b+3)/\fz (ow W2) S.sizes (m b)=nz (ow S.words) S.sizes m b:=fun b hb=>by
   obtain ⟨d1,d2,d3,d4⟩:=I.done b hb;have pb:=h.part hb;have qb:=hin b hb;have e0:ow W2 (m b)=ow W1 (m b):=g2 _ (by omega) (by omega);refine ⟨e0.trans d1,(g2 _ (by omega) (by omega)).trans d2,(g2 _ (by omega) (by omega)).trans d3,g2 _ (by omega) (by omega), ?_⟩;rw [<- d4];unfold fz;rw [e0];exact U7a fun k hk=>g2 _ (by omega) (by rw [d1] at hk;omega)
  have kaddr:∀ a ∈ S.taken,∀ x ∈ kz (ow S.words) S.sizes a,∃ k ∈ S.taken,x=(k:Int):=fun a ha x hx=>by
   obtain ⟨b,hb,e,_⟩:=h.cells.kids a ha x hx;exact ⟨b,hb,e⟩
  have DK:∀ b ∈ S.taken,kz (ow W2) S.sizes (m b)=(kz (ow S.words) S.sizes b).map (to' m):=fun b hb=>by
   obtain ⟨d1,_,_,_,d5⟩:=D b hb;unfold kz;rw [d1,d5];unfold nz
   split <;> simp
  have mT:∀ x,x ∈ S.taken.map m ↔ ∃ b ∈ S.taken,m b=x:=fun x=>F7c
  have fzn:∀ b ∈ S.taken,B1a (ow S.words b)=false->nz (ow S.words) S.sizes m b=(fz (ow S.words) S.sizes b).map (to' m):=fun b _ he=>by simp [nz,he]
  have fze:∀ b ∈ S.taken,B1a (ow S.words b)=true->nz (ow S.words) S.sizes m b=fz (ow S.words) S.sizes b:=fun b _ he=>by simp [nz,he]
  have kfz:∀ b ∈ S.taken,B1a (ow S.words b)=false -> ∀ x ∈ fz (ow S.words) S.sizes b,∃ k ∈ S.taken,x=(k:Int):=fun b hb he x hx=>kaddr b hb x (by unfold kz;rw [he];simpa using hx)
  let P:List Tl:=S.taken.map fun b=>(⟨m b,wz S.sizes (ow S.words b),false⟩:Tl)
  let q:List Tl:=if next < S.words.length then [⟨next,S.words.length-next,true⟩] else []
  have hPf:∀ t ∈ P,t.fr=false:=fun t ht=>by
   obtain ⟨b,_,rfl⟩:=F7c.1 ht;rfl
  have hq:q=[]/\next=S.words.length \/ q=[⟨next,S.words.length-next,true⟩]/\next+3<=S.words.length:=by
   by_cases hlt:next < S.words.length
   . exact .inr ⟨H5c hlt,by omega⟩
   exact .inl ⟨H4c hlt,by omega⟩
  have hPlay:Lay 17 P next:=hlay;have hads:A6a (P ++ q)=S.taken.map m:=by
   rw [D2a];have e1:A6a q=[]:=by rcases hq with ⟨e,_⟩ | ⟨e,_⟩ <;> rw [e] <;> rfl
   have e2:A6a P=S.taken.map m:=by
    unfold A6a;rw [List.filter_eq_self.2 fun t ht=>by rw [hPf t ht];rfl];show (S.taken.map _).map _=_;rw [F8c];rfl
   rw [e1,e2,C7c]
  refine ⟨M,m,{ S with words:=W2,taken:=S.taken.map m },P ++ q,cc,hrun,⟨rfl,rfl,l2,rfl,v3,hget,fun b hb=>(D b hb).1,fun b hb=>(D b hb).2.2.1,fun b hb=>(D b hb).2.2.2.2,hinj⟩, ?_,⟨P,q,rfl,hPf, ?_⟩,rfl,hcc.symm,fun b hb=>(D b hb).2.1,rfl⟩
  . exact
    { fr:=h.fr
      lo:=by show 20<=W2.length;omega
      hi:=by show W2.length<=100000;omega
      bd:=h.bd
      parts:=by
       show Parts (ow W2) S.sizes (P ++ q) W2.length;rw [l2];refine ⟨Lay.app.2 ⟨next,hPlay, ?_⟩,B6a.app.2 ?_,Sep.app.2 ⟨x3a hPf, ?_,by rw [f4a hPf];simp⟩,fun t ht=>?_⟩
       . rcases hq with ⟨e,e'⟩ | ⟨e,e'⟩
         . rw [e];exact e'
         rw [e];refine ⟨rfl,by show 3<=S.words.length-next;omega, ?_⟩;show next+(S.words.length-next)=S.words.length;omega
       . rw [(W8a hPf).1,(W8a (f:=ow W2) (l:=16) (x:=0) hPf).2]
         rcases hq with ⟨e,e'⟩ | ⟨e,e'⟩
         . rw [e];rw [H4c (by omega)] at g16;exact ⟨g16,g16⟩
         rw [e];rw [H5c (by omega)] at g16;exact ⟨g16.1,g16.1,g16.2.2 (next+2) (by omega) (by omega)⟩
       . rcases hq with ⟨e,_⟩ | ⟨e,_⟩ <;> rw [e] <;> trivial
       rcases C4c.1 ht with ht | ht
       . obtain ⟨b,hb,rfl⟩:=F7c.1 ht;unfold G3a;simp only [x6b,H1c];rw [(D b hb).1];exact ⟨h.cells.tags b hb,rfl⟩
       rcases hq with ⟨e,e'⟩ | ⟨e,e'⟩
       . rw [e] at ht;cases ht
       rw [e] at ht;have:t=⟨next,S.words.length-next,true⟩:=by simpa using ht
       subst this;rw [H5c (by omega)] at g16;unfold G3a;simp only [H2c];exact ⟨g16.2.2 next (H0c _) (by omega),g16.2.1,fun j h1 h2=>g16.2.2 j (by omega) (by omega)⟩
      taken:=hads.symm
      chains:=by
       show e5a (ow W2) S.sizes (S.taken.map m) cc;refine ⟨fun c hc=>(I.path c hc).congr (g2 _ (by omega) (by omega)) fun x hx=>?_,I.nd,fun c hc x=>?_⟩
       . obtain ⟨b,hb,rfl,_⟩:=(I.mem c hc x).1 hx;exact (D b hb).2.2.2.1
       rw [I.mem c hc x,mT];constructor
       . rintro ⟨b,hb,rfl,e⟩;exact ⟨⟨b,hb,rfl⟩,by rw [(D b hb).1,(D b hb).2.2.2.2];exact e⟩
       rintro ⟨⟨b,hb,rfl⟩,e⟩;rw [(D b hb).1,(D b hb).2.2.2.2] at e;exact ⟨b,hb,rfl,e⟩
      cells:=by
       show Cells (ow W2) S.sizes S.order (S.taken.map m);refine ⟨fun x hx=>?_,fun x hx=>?_,fun x hx y hy=>?_,fun x hx=>?_,fun x hx y hy h1 h2=>?_⟩
       . obtain ⟨b,hb,rfl⟩:=(mT x).1 hx;rw [(D b hb).1];exact h.cells.tags b hb
       . obtain ⟨b,hb,rfl⟩:=(mT x).1 hx;rw [(D b hb).1];intro he;have hwe:wz S.sizes (ow S.words b)=5:=by simp [wz,he]
         have e5:=(D b hb).2.2.2.2;rw [fze b hb he] at e5;have e4:ow W2 (m b+4)=ow S.words (b+4):=by
          have q1:=I5a (f:=ow W2) (i:=m b+4) (n:=wz S.sizes (ow W2 (m b))-4) (k:=0) (by rw [(D b hb).1,hwe];omega);have q2:=I5a (f:=ow S.words) (i:=b+4) (n:=wz S.sizes (ow S.words b)-4) (k:=0) (by rw [hwe];omega);unfold fz at e5;rw [e5,q2] at q1
          simpa using q1.symm
         rw [e4];exact h.cells.ends b hb he
       . obtain ⟨b,hb,rfl⟩:=(mT x).1 hx;rw [DK b hb] at hy;obtain ⟨y',hy',rfl⟩:=F7c.1 hy;obtain ⟨k,hk,rfl,hr⟩:=h.cells.kids b hb y' hy';refine ⟨m k,(mT _).2 ⟨k,hk,rfl⟩,by simp [to'], ?_⟩;rw [(D b hb).1,(D k hk).1];exact hr
       . obtain ⟨b,hb,rfl⟩:=(mT x).1 hx;rw [(D b hb).1,(D b hb).2.2.2.2];intro he;rw [fzn b hb he]
         cases ha:Hs.alike ((fz (ow S.words) S.sizes b).map (to' m)) with
         | false=>rfl
         | true=>
          have:=R7b hinj (kfz b hb he) ha;rw [h.cells.flat b hb he] at this
          cases this
       obtain ⟨a,ha,rfl⟩:=(mT x).1 hx;obtain ⟨b,hb,rfl⟩:=(mT y).1 hy;rw [(D a ha).1,(D b hb).1] at h1;rw [(D a ha).2.2.2.2,(D b hb).2.2.2.2] at h2;have:a=b:=by
        refine h.cells.one a ha b hb h1 ?_
        cases he:B1a (ow S.words a) with
        | true=>
         rw [fze a ha he,fze b hb (by rw [<- h1];exact he)] at h2;exact h2
        | false=>
         have he':B1a (ow S.words b)=false:=by rw [<- h1];exact he
         rw [fzn a ha he,fzn b hb he'] at h2;exact X1b hinj (kfz a ha he) (kfz b hb he') h2
       rw [this]
      uses:=by
       intro x hx;obtain ⟨b,hb,rfl⟩:=(mT x).1 hx;show ow W2 (m b+1)=cnt (ow W2) S.sizes (m b) (S.taken.map m);rw [(D b hb).2.1,h.uses b hb];have key:∀ T:List Nat,(∀ c ∈ T,c ∈ S.taken)->cnt (ow W2) S.sizes (m b) (T.map m)=cnt (ow S.words) S.sizes b T:=by
        intro T
        induction T with
        | nil=>intro _;rfl
        | cons c T ih=>
         intro hT;have hc:=hT c (by simp);show List.count _ (kz (ow W2) S.sizes (m c))+cnt _ _ _ (T.map m)=_;rw [DK c hc,z7a hinj hb (kaddr c hc),ih fun d hd=>hT d (by simp [hd])];rfl
       rw [key S.taken fun c hc=>hc]
      holds:=fun x hx=>by
       obtain ⟨b,hb,rfl⟩:=(mT x).1 hx;show 0<=ow W2 (m b+2)/\ow W2 (m b+2)<=B
       rw [(D b hb).2.2.1];exact h.holds b hb }
  rcases hq with ⟨e,_⟩ | ⟨e,_⟩
  . exact .inl e
  exact .inr ⟨_,e,rfl⟩
theorem d6b {ch:Nat->List Nat} (h:Wf S B L ch):∃ M m S' L' ch',S.moved=some (M,S')/\Y7b S S' M m/\Wf S' B L' ch' /\ ∃ P q,L'=P ++ q/\(∀ t ∈ P,t.fr=false)/\(q=[] \/ ∃ t,q=[t]/\t.fr=true):=by
 obtain ⟨M,m,S',L',ch',h1,h2,h3,h4,_⟩:=y0a h
 exact ⟨M,m,S',L',ch',h1,h2,h3,h4⟩
end Hp
namespace Hp
theorem p0a {k:Nat} {x:Int}:∀ {M:List (Nat × Int)},J6a M->getI k M=none->(putI k x M).length=M.length+1
 | [],_,_=>rfl
 | (j,y) :: r,hu,h=>by
  obtain ⟨h1,h2⟩:=w3b.1 hu;unfold getI at h
  by_cases e:j=k
  . rw [H5c e] at h
    cases h
  rw [H4c e] at h;unfold putI
  split
  . simp
  split
  . rename_i e';exact absurd e'.symm e
  have:=p0a h2 h (x:=x);simp [this]
theorem Q9a {k:Nat} {x:Int}:∀ {M:List (Nat × Int)} {p:Nat × Int},p ∈ putI k x M->p=(k,x) \/ p ∈ M
 | [],p,h=>by
  left
  simpa [putI] using h
 | (j,y) :: r,p,h=>by
  unfold putI at h
  split at h
  . rcases E6c.1 h with h | h
    . exact .inl h
    exact .inr h
  split at h
  . rcases E6c.1 h with h | h
    . exact .inl h
    exact .inr (by simp [h])
  rcases E6c.1 h with h | h
  . exact .inr (by simp [h])
  rcases Q9a h with h | h
  . exact .inl h
  exact .inr (by simp [h])
theorem A2b {k:Nat} {x:Int}:∀ {M:List (Nat × Int)},getI k M=some x->(k,x) ∈ M
 | [],h=>by cases h
 | (j,y) :: r,h=>by
  unfold getI at h
  split at h
  . rename_i e;subst e
    cases h
    simp
  simp [A2b h]
end Hp
open Go.RowKit Go.Maps
structure RdN (w:World) (n:Nat) (p:Option Addr) (c:Nat) (X:List (List Value)):Prop where
 le:X.length<=c
 cap:c<=9223372036854775807
 cells:0 < X.length -> ∃ b o,p=some ⟨b,o,none⟩/\b < w.heap.size /\ ∀ j x i v,X[j]? = some x->x[i]? = some v->w.cell? ⟨b,o+(j * n+i),none⟩=some v
namespace RdN
variable {w w':World} {n c:Nat} {p:Option Addr} {X:List (List Value)}
theorem but (h:RdN w n p c X) {l:List Nat} (k:But l w w') (hf:∀ b o,p=some ⟨b,o,none⟩->b ∉ l):RdN w' n p c X:=by
 refine ⟨h.le,h.cap,fun h0=>?_⟩
 obtain ⟨b,o,rfl,hb,hc⟩:=h.cells h0
 exact ⟨b,o,rfl,x4b hb k.size,fun j x i v hx hv=>(k.cell hb (hf b o rfl) _).trans (hc j x i v hx hv)⟩
theorem ext (h:RdN w n p c X) (k:Ext w w'):RdN w' n p c X:=h.but (l:=[]) (But.E7a k) (by simp)
end RdN
structure RowN (w:World) (n:Nat) (t:TypeId) (p:Option Addr) (c:Nat) (X:List (List Value)):Prop where
 own:w.ownsRow 0 t n (.slice p X.length c) X.length X.flatten
 len:∀ x ∈ X,x.length=n
theorem j2a {n:Nat}:∀ {X:List (List Value)} {j i:Nat} {x:List Value} {v:Value},(∀ x ∈ X,x.length=n)->X[j]? = some x->x[i]? = some v->X.flatten[j * n+i]? = some v
 | [],_,_,_,_,_,h,_=>by simp at h
 | y :: r,0,i,x,v,hl,hx,hv=>by
  simp only [List.getElem?_cons_zero,z7b] at hx;subst hx;rw [z1b,Nat.zero_mul,G4c,q6b (q5b.1 hv).1];exact hv
 | y :: r,j+1,i,x,v,hl,hx,hv=>by
  have e:=hl y (by simp);rw [z1b,q0b (by rw [e,Nat.succ_mul];omega),e,show (j+1) * n+i-n=j * n+i by rw [Nat.succ_mul];omega];exact j2a (fun x hx=>hl x (by simp [hx])) (by simpa using hx) hv
theorem k4a {n:Nat}:∀ {X:List (List Value)},(∀ x ∈ X,x.length=n)->X.flatten.length=X.length * n
 | [],_=>by simp
 | y :: r,h=>by
  rw [z1b,w2b,k4a (n:=n) (fun x hx=>h x (by simp [hx])),h y (by simp),A5c,Nat.succ_mul];omega
namespace RowN
variable {w w':World} {n c:Nat} {t:TypeId} {p:Option Addr} {X:List (List Value)}
theorem nil (w:World) (n:Nat) (t:TypeId):RowN w n t none 0 []:=⟨A0c w _ _ _,by simp⟩
theorem ptr (h:RowN w n t p c X) {o:Nat} (e:p=some ⟨b,o,none⟩):o=0/\b < w.heap.size:=by
 rcases h.own.2 with ⟨e',_⟩ | ⟨g,cap,cur,e',hb,hg,_⟩
 . injection e' with e1
   rw [e] at e1
   cases e1
 injection e' with e1
 rw [e] at e1
 cases e1
 exact ⟨rfl,(q4b.1 hg).1⟩
theorem rd (h:RowN w n t p c X):RdN w n p c X:=by
 rcases h.own.2 with ⟨e,hz⟩ | ⟨g,cap,cur,e,hb,hg,r1,r2,r3,r4⟩
 . injection e with e1 e2 e3
   exact ⟨by omega,by omega,fun h0=>by omega⟩
 injection e with e1 e2 e3
 subst e1 e3
 refine ⟨r1,by unfold maxLen at r2;omega,fun _=>⟨g,0,rfl,(q4b.1 hg).1,fun j x i v hx hv=>?_⟩⟩
 have:=h.own.cells (g:=g) rfl (j * n+i) v (j2a h.len hx hv)
 rw [G8c] at this
 exact this
theorem but (h:RowN w n t p c X) {l:List Nat} (k:But l w w') (hf:∀ b o,p=some ⟨b,o,none⟩->b ∉ l):RowN w' n t p c X:=by
 refine ⟨⟨h.own.1, ?_⟩,h.len⟩
 rcases h.own.2 with e | ⟨g,cap,cur,e,hb,hg,r⟩
 . exact .inl e
 refine .inr ⟨g,cap,cur,e,hb, ?_,r⟩
 have hl:=(q4b.1 hg).1
 have e1:p=some ⟨g,0,none⟩:=by
  injection e
 rw [k.block g hl (hf g 0 e1)]
 exact hg
theorem ext (h:RowN w n t p c X) (k:Ext w w'):RowN w' n t p c X:=h.but (l:=[]) (But.E7a k) (by simp)
theorem o9b (h:RowN w n t p c X):∀ r,(Value.slice p X.length c).ownBlock=some r->p=some ⟨r,0,none⟩:=fun r hr=>by
 rcases h.own.2 with ⟨e',_⟩ | ⟨g',cap',cur',e',_⟩
 . injection e' with e1
   subst e1;simp [Value.ownBlock] at hr
 injection e' with e1
 subst e1
 have:g'=r:=by simpa [Value.ownBlock] using hr
 rw [this]
end RowN
def blk:Option Addr->List Nat
 | some a=>[a.block]
 | none=>[]
theorem C2a {o:Nat} (e:p=some ⟨b,o,none⟩):b ∈ blk p:=by subst e;simp [blk]
theorem k5b (h:b ∈ blk p):∃ o s,p=some ⟨b,o,s⟩:=by
 cases p with
 | none=>simp [blk] at h
 | some a=>
  simp only [blk,w8b] at h;subst h;exact ⟨_,_,rfl⟩
def endC (v:Int × Int):List Value:=[.int .u8 v.1,.int .i64 v.2]
def S4a (q:Int × List Int) (k:Option Addr × Nat):List Value:=[.int .i64 q.1,.slice k.1 q.2.length k.2]
structure DgL where
 ps:Option Addr
 cs:Nat
 po:Option Addr
 co:Nat
 pe:Option Addr
 ce:Nat
 pn:Option Addr
 cn:Nat
 K:List (Option Addr × Nat)
def DgL.blocks (L:DgL):List Nat:=blk L.ps ++ blk L.po ++ blk L.pe ++ blk L.pn ++ L.K.flatMap (fun k=>blk k.1)
def DgL.cells (L:DgL) (zs os es ns:Nat) (x:Int):Array Value:=#[.slice L.ps zs L.cs,.slice L.po os L.co,.slice L.pe es L.ce,.slice L.pn ns L.cn,.int .i64 x]
structure DgRd (w:World) (L:DgL) (z o:List Int) (E:List (Int × Int)) (N:List (Int × List Int)):Prop where
 s:SliceAt w L.ps L.cs z
 o:SliceAt w L.po L.co o
 e:RdN w 2 L.pe L.ce (E.map endC)
 n:RdN w 2 L.pn L.cn (List.zipWith S4a N L.K)
 kl:L.K.length=N.length
 ks:∀ (j:Nat) (q:Int × List Int) (k:Option Addr × Nat),N[j]? = some q->L.K[j]? = some k->SliceAt w k.1 k.2 q.2
theorem DgRd.but {L:DgL} {E:List (Int × Int)} {N:List (Int × List Int)} (h:DgRd w L z o E N) {l:List Nat} (k:But l w w') (hl:∀ b ∈ l,b ∉ L.blocks):DgRd w' L z o E N:=by
 have key:∀ b,b ∈ L.blocks->b ∉ l:=fun b hb hm=>hl b hm hb
 refine ⟨h.s.but k fun b o e=>key b ?_,h.o.but k fun b o e=>key b ?_,h.e.but k fun b o e=>key b ?_,h.n.but k fun b o e=>key b ?_,h.kl,fun j q kk hq hk=>(h.ks j q kk hq hk).but k fun b o e=>key b ?_⟩
 all_goals simp only [DgL.blocks,C4c,B0c]
 . exact .inl (.inl (.inl (.inl (C2a e))))
 . exact .inl (.inl (.inl (.inr (C2a e))))
 . exact .inl (.inl (.inr (C2a e)))
 . exact .inl (.inr (C2a e))
 exact .inr ⟨kk,u1b hk,C2a e⟩
theorem DgRd.ext {L:DgL} {E:List (Int × Int)} {N:List (Int × List Int)} (h:DgRd w L z o E N) (k:Ext w w'):DgRd w' L z o E N:=h.but (l:=[]) (But.E7a k) (by simp)
open Go.RowKit Go.Maps
theorem g6b (a b a' b':Int) (u:World):Sem.run prog (Op.equalIn 10000 43 (.agg #[.int .u8 a,.int .i64 b]) (.agg #[.int .u8 a',.int .i64 b'])) u = .ok (decide ((a,b)=(a',b'))) u:=by
 rw [show (10000:Nat)=9999+1 from rfl]
 rw [run_equalIn_agg u 9999 43 _ _ (by kernel_rfl) (by kernel_rfl)]
 go_simp
 by_cases h:a=a' <;> by_cases k:b=b' <;> simp [h,k]
theorem e7a {E:List (Int × Int)} {v:Int × Int} (h:E[j]? = some v):(E.map endC)[j]? = some [.int .u8 v.1,.int .i64 v.2]:=by
 rw [y7b,h]
 rfl
theorem RdN.L0a {E:List (Int × Int)} (h:RdN w 2 p c (E.map endC)) (h0:0 < E.length):∃ b o,p=some ⟨b,o,none⟩/\b < w.heap.size /\ ∀ (j:Nat) (v:Int × Int),E[j]? = some v->w.cell? ⟨b,o+j * 2,none⟩=some (.int .u8 v.1)/\w.cell? ⟨b,o+j * 2+1,none⟩=some (.int .i64 v.2):=by
 obtain ⟨b,o,rfl,hb,hc⟩:=h.cells (by simpa using h0)
 refine ⟨b,o,rfl,hb,fun j v hv=>⟨?_, ?_⟩⟩
 . exact hc j _ 0 _ (e7a hv) rfl
 exact hc j _ 1 _ (e7a hv) rfl
theorem A5a {α:Type} {E:List α} (h:j < E.length):∃ v,E[j]? = some v:=⟨E[j],r1b h⟩
theorem W2a {α:Type} {l m:List α} (hl:l.length=m.length) (h:∀ i,i < l.length->l[i]? = m[i]?):l=m:=by
 apply y2b 
 intro i
 by_cases hi:i < l.length
 . exact h i hi
 rw [s9b (by omega),s9b (by omega)]
namespace Hp
def bef:Nat->List Tl->Nat->Nat
 | l,[],_=>l
 | l,_ :: _,0=>l
 | _,t :: r,i+1=>bef (t.a+2) r i
def F3a (L:List Tl):List Tl:=L.filter fun t=>t.fr
theorem l8a {t:Tl}:t ∈ F3a L ↔ t ∈ L/\t.fr=true:=by simp [F3a]
theorem V2a {f:Nat->Int}:∀ {l:Nat} {L:List Tl},B6a f l L 0->(∀ i t,(F3a L)[i]? = some t->f (bef l (F3a L) i)=(t.a:Int))/\f (bef l (F3a L) (F3a L).length)=0
 | l,[],h=>⟨by simp [F3a],h⟩
 | l,t :: r,h=>by
  unfold B6a at h
  cases hf:t.fr with
  | false=>
   rw [hf] at h;have e:F3a (t :: r)=F3a r:=by simp [F3a,hf]
   rw [e];exact V2a (by simpa using h)
  | true=>
   rw [hf] at h;simp only [H2c] at h;have e:F3a (t :: r)=t :: F3a r:=by simp [F3a,hf]
   obtain ⟨h1,h2⟩:=V2a h.2;rw [e];refine ⟨fun i u hu=>?_,h2⟩
   cases i with
   | zero=>
    have:t=u:=by simpa using hu
    subst this;exact h.1
   | succ i=>exact h1 i u (by simpa using hu)
theorem I4b:∀ {s n:Nat} {L:List Tl},Lay s L n->Sep L->(F3a L).Pairwise fun t u=>t.a+t.k < u.a
 | _,_,[],_,_=>List.Pairwise.nil
 | s,n,t :: r,h,hs=>by
  obtain ⟨h1,h2,h3⟩:=h;have ih:=I4b h3 hs.tail
  cases hf:t.fr with
  | false=>
   have e:F3a (t :: r)=F3a r:=by simp [F3a,hf]
   rw [e];exact ih
  | true=>
   have e:F3a (t :: r)=t :: F3a r:=by simp [F3a,hf]
   rw [e];refine w3b.2 ⟨fun u hu=>?_,ih⟩;obtain ⟨hu1,hu2⟩:=l8a.1 hu
   cases r with
   | nil=>cases hu1
   | cons v r=>
    obtain ⟨q1,q2,q3⟩:=h3
    rcases E6c.1 hu1 with rfl | hu1
    . exact absurd ⟨hf,hu2⟩ hs.1
    have:=q3.mem hu1;omega
structure Frees (f:Nat->Int) (n:Nat) (F:List Tl):Prop where
 link:∀ i t,F[i]? = some t->f (bef 16 F i)=(t.a:Int)
 last:f (bef 16 F F.length)=0
 part:∀ t ∈ F,17<=t.a/\3<=t.k/\t.a+t.k<=n/\f t.a=0/\f (t.a+1)=t.k /\ ∀ j,t.a+3<=j->j < t.a+t.k->f j=0
 far:∀ i t u,F[i]? = some t->F[i+1]? = some u->t.a+t.k < u.a
theorem Parts.frees {f:Nat->Int} (h:Parts f z L n):Frees f n (F3a L) where
 link:=(V2a h.links).1
 last:=(V2a h.links).2
 part t ht:=by
  obtain ⟨h1,h2⟩:=l8a.1 ht;have:=h.lay.mem h1;have:=(h.ok t h1).free h2;exact ⟨by omega,by omega,by omega,this.1,this.2.1,this.2.2⟩
 far i t u h1 h2:=by
  have hp:=I4b h.lay h.sep;rw [q9b] at hp;obtain ⟨l1,e1⟩:=q5b.1 h1;obtain ⟨l2,e2⟩:=q5b.1 h2;have:=hp i (i+1) l1 l2 (by omega);rw [e1,e2] at this;exact this
end Hp
namespace Hp
def V8a (ch:Nat->List Nat):Nat->List Nat
 | 0=>[]
 | c+1=>V8a ch c ++ ch c
theorem Y9a {ch:Nat->List Nat} {a:Nat}:∀ {k:Nat},a ∈ V8a ch k ↔ ∃ c,c < k/\a ∈ ch c
 | 0=>by simp [V8a]
 | k+1=>by
  unfold V8a;rw [C4c,Y9a];constructor
  . rintro (⟨c,h1,h2⟩ | h)
    . exact ⟨c,by omega,h2⟩
    exact ⟨k,by omega,h⟩
  rintro ⟨c,h1,h2⟩
  by_cases e:c=k
  . subst e;exact .inr h2
  exact .inl ⟨c,by omega,h2⟩
theorem X6a {f:Nat->Int} {z:List Int} {Lv:List Nat} {ch:Nat->List Nat} (h:e5a f z Lv ch):∀ {k:Nat},k<=16->(V8a ch k).Nodup
 | 0,_=>List.Pairwise.nil
 | k+1,hk=>by
  unfold V8a;refine y8b.2 ⟨X6a h (by omega),h.nodup k (by omega),fun a ha b hb e=>?_⟩;subst e;obtain ⟨c,h1,h2⟩:=Y9a.1 ha;have e1:=((h.mem c (by omega) a).1 h2).2;have e2:=((h.mem k (by omega) a).1 hb).2;omega
theorem Q9b {f:Nat->Int} {Lv:List Nat} {ch:Nat->List Nat} (h:e5a f z Lv ch) (hk:k<=16):∀ a ∈ V8a ch k,a ∈ Lv:=fun a ha=>by
 obtain ⟨c,h1,h2⟩:=Y9a.1 ha
 exact ((h.mem c (by omega) a).1 h2).1
theorem W7b {f:Nat->Int} {Lv:List Nat} {ch:Nat->List Nat} (h:e5a f z Lv ch) (hn:Lv.Nodup):(V8a ch 16).length=Lv.length:=by
 have h1:=C4a (X6a h (H0c 16)) (Q9b h (H0c 16))
 have h2:=C4a hn (m:=V8a ch 16) fun a ha=>Y9a.2 ⟨_,P0a _ _,(h.mem _ (P0a _ _) a).2 ⟨ha,rfl⟩⟩
 omega
def l1b (f:Nat->Int):Int->List Nat->Prop
 | x,[]=>x=0
 | x,a :: r=>x=(a:Int)/\a ≠ 0/\l1b f (f (a+3)) r
theorem Path.v {f:Nat->Int}:∀ {l:Nat} {r:List Nat},Path f l r->l1b f (f l) r
 | _,[],h=>h
 | _,_ :: _,h=>⟨h.1,h.2.1,Path.v h.2.2⟩
end Hp
open Go.RowKit Go.Maps
end Go.Proofs.YtdokmmhjmclmnaaGreat
