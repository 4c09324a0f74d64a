/- Part 10 of a proof. -/
import Derived.Test.YtdokmmhjmclmnaaGreatMU01
set_option linter.unusedSimpArgs false
set_option linter.unusedVariables false
set_option linter.unusedSectionVars false
set_option linter.unnecessarySimpa false
set_option maxHeartbeats 2000000
namespace Go.Proofs.YtdokmmhjmclmnaaGreat
variable {W' w w' w0 wb:World} {B a b bx c ca cap ce cn f g i j k lb m n qc:Nat} {choice e t x:Int} {A W fs ks l o z:List Int} {D T Y:List Nat} {p p2 pa pe pn q:Option Addr} {S S':Hp.Hs} {M:List (Nat × Int)}
namespace Hp
def ow (W:List Int) (j:Nat):Int:=W.getD j 0
def cut (f:Nat->Int) (i n:Nat):List Int:=(List.range n).map fun k=>f (i+k)
theorem E2a (f:Nat->Int) (i n:Nat):(cut f i n).length=n:=by simp [cut]
theorem I5a {f:Nat->Int} (h:k < n):(cut f i n)[k]? = some (f (i+k)):=by simp [cut,h]
theorem a9a {f:Nat->Int}:x ∈ cut f i n ↔ ∃ k,k < n/\f (i+k)=x:=by simp [cut]
theorem U7a {f g:Nat->Int} (h:∀ k,k < n->f (i+k)=g (i+k)):cut f i n=cut g i n:=by
 unfold cut
 apply u7b
 intro k hk
 exact h k (by simpa using hk)
theorem F7a (h:j < W.length):rd W j=some (ow W j):=by
 simp [rd,ow,List.getD,r1b h]
theorem ow_rd (h:rd W j=some x):ow W j=x/\j < W.length:=by
 unfold rd at h
 obtain ⟨hl,e⟩:=q5b.1 h
 exact ⟨by simp [ow,List.getD,h],hl⟩
theorem g8b (h:W.length<=j):ow W j=0:=by simp [ow,List.getD,s9b h]
theorem g7b {W':List Int} (hl:W'.length=W.length) (h:∀ j,j < W.length->ow W' j=ow W j):W'=W:=by
 apply List.ext_getElem hl
 intro i h1 h2
 have:=h i h2
 simpa [ow,List.getD,r1b h1,r1b h2] using this
theorem J8a (v:Int) (h:i < W.length):∃ W',wr W i v=some W'/\W'.length=W.length /\ ∀ j,ow W' j=if j=i then v else ow W j:=by
 refine ⟨W.set i v,by simp [wr,h],by simp,fun j=>?_⟩
 simp only [ow,List.getD,List.getElem?_set]
 by_cases e:i=j
 . subst e;simp [h]
 rw [H4c e,H4c (fun e'=>e e'.symm)]
theorem B0b (h:i+n<=W.length):∃ W',zero W i n=some W'/\W'.length=W.length /\ ∀ j,ow W' j=if i<=j/\j < i+n then 0 else ow W j:=by
 refine ⟨_,by unfold zero;rw [H5c h],by simp;omega,fun j=>?_⟩
 simp only [ow,List.getD]
 by_cases h1:j < i
 . rw [H4c (by omega),y1b,q6b (by simp;omega),r2b h1]
 by_cases h2:j < i+n
 . rw [H5c (by omega),y1b,q0b (by simp;omega),q6b (by simp;omega)];simp only [A3c,r6b];rw [H5c (by omega)];rfl
 rw [H4c (by omega),q0b (by simp;omega),w1b]
 simp only [w2b,A3c,t0b]
 rw [show i+n+(j-(min i W.length+n))=j by omega]
theorem i0b (h:i+l.length<=W.length):∃ W',lay W i l=some W'/\W'.length=W.length /\ ∀ j,ow W' j=if i<=j/\j < i+l.length then l.getD (j-i) 0 else ow W j:=by
 refine ⟨_,by unfold lay;rw [H5c h],by simp;omega,fun j=>?_⟩
 simp only [ow,List.getD]
 by_cases h1:j < i
 . rw [H4c (by omega),q6b (by simp;omega),r2b h1]
 by_cases h2:j < i+l.length
 . rw [H5c (by omega),q0b (by simp;omega),q6b (by simp;omega)];simp only [A3c];rw [show min i W.length=i by omega]
 rw [H4c (by omega),q0b (by simp;omega),q0b (by simp;omega),w1b]
 simp only [A3c]
 rw [show i+l.length+(j-min i W.length-l.length)=j by omega]
theorem f9b (h:i+n<=W.length):sub W i n=some (cut (ow W) i n):=by
 unfold sub
 rw [H5c h]
 congr 1
 apply y2b
 intro k
 by_cases hk:k < n
 . rw [I5a hk,r2b hk,w1b];exact F7a (by omega)
 rw [s9b (by simp;omega),s9b (by rw [E2a];omega)]
theorem Y5a (h:i < W.length) (e:ow W i=(a:Int)):ra W i=some a:=by
 unfold ra
 rw [F7a h,e]
 simp [adr]
theorem C2b (h1 : -4611686018427387904 < x) (h2:x < 4611686018427387904):ck x=some x:=by
 unfold ck
 rw [H5c ⟨h1,h2⟩]
theorem g5a (h:i < W.length) (h1 : -4611686018427387904 < ow W i) (h2:ow W i < 4611686018427387904):rc W i=some (ow W i):=by
 unfold rc
 rw [F7a h]
 exact C2b h1 h2
structure Fr (z:List Int):Prop where
 few:z.length<=6
 pos:∀ s ∈ z,1<=s/\s<=12
def wz (z:List Int) (t:Int):Nat:=if B1a t then 5 else 4+(z.getD (t-1).toNat 0).toNat
def okTag (z:List Int) (t:Int):Bool:=isNode z t || B1a t
theorem Q8a (hz:Fr z) (h:okTag z t=true):1<=t/\t<=24:=by
 have:=hz.few
 simp only [okTag,isNode,B1a,within,D4c,B8c,A1c] at h
 omega
theorem S6a (hz:Fr z) (h:okTag z t=true):wide z t=some (wz z t)/\5<=wz z t/\wz z t<=16:=by
 unfold wide wz
 cases he:B1a t with
 | true=>simp
 | false=>
  simp only [okTag,he,Bool.or_false,isNode,within,B8c,A1c] at h;have hl:(t-1).toNat < z.length:=by omega
  have e1:adr (t-1)=some (t-1).toNat:=by simp [adr];omega
  generalize (t-1).toNat=i at *;have e2:z.getD i 0=z[i]:=by simp [List.getD,r1b hl]
  have hp:=hz.pos _ (A4c hl);have e3:ra z i=some (z[i]).toNat:=by
   unfold ra rd;rw [r1b hl];simp [adr];omega
  simp only [x6b,H1c,e1,e3,v9b,B5c,e2];refine ⟨rfl,by omega,by omega⟩
theorem Q2a (h:okTag z t=true) (he:B1a t=false):isNode z t=true:=by
 simpa [okTag,he] using h
def fz (f:Nat->Int) (z:List Int) (a:Nat):List Int:=cut f (a+4) (wz z (f a)-4)
def kz (f:Nat->Int) (z:List Int) (a:Nat):List Int:=if B1a (f a) then [] else fz f z a
theorem D7a (f:Nat->Int) (z:List Int) (a:Nat):(fz f z a).length=wz z (f a)-4:=by simp [fz,E2a]
section
variable {S:Hs} {a:Nat}
theorem G7b (h:a < S.words.length):S.tag a=some (ow S.words a):=F7a h
theorem i3a (hz:Fr S.sizes) (h:a < S.words.length) (ho:okTag S.sizes (ow S.words a)=true):S.k9a a=some (wz S.sizes (ow S.words a)):=by
 unfold Hs.k9a
 rw [G7b h]
 exact (S6a hz ho).1
theorem j5a (hz:Fr S.sizes) (ho:okTag S.sizes (ow S.words a)=true) (h:a+wz S.sizes (ow S.words a)<=S.words.length):S.fields a=some (fz (ow S.words) S.sizes a):=by
 have hw:=S6a hz ho
 unfold Hs.fields
 rw [i3a hz (by omega) ho]
 simp only [v9b,B5c]
 exact f9b (by omega)
theorem h2a (hz:Fr S.sizes) (ho:okTag S.sizes (ow S.words a)=true) (h:a+wz S.sizes (ow S.words a)<=S.words.length):S.kids a=some (kz (ow S.words) S.sizes a):=by
 have hw:=S6a hz ho
 unfold Hs.kids kz
 rw [G7b (by omega)]
 simp only [v9b,B5c]
 cases B1a (ow S.words a)
 . simpa using j5a hz ho h
 simp
end
def sz:List Int->Int->Int->Int
 | [],_,n=>n
 | f :: r,i,n=>sz r (i+1) (n+(i+1) * f)
def cz (t:Int) (l:List Int):Nat:=(sz l 0 (7 * t) % 16).toNat
theorem P0a (t:Int) (l:List Int):cz t l < 16:=by unfold cz;omega
theorem Q7b:∀ (l:List Int) (i:Nat) (n:Int),(∀ x ∈ l,-1000000<=x/\x<=1000000)->i+l.length<=20 -> -1000000000 * (i:Int)-1000000<=n->n<=1000000000 * (i:Int)+1000000->sums l i n=some (sz l i n)
 | [],_,_,_,_,_,_=>rfl
 | f :: r,i,n,h,hi,h1,h2=>by
  have hf:=h f (by simp);simp only [A5c] at hi;have hm : -20000000<=((i:Int)+1) * f/\((i:Int)+1) * f<=20000000:=by
   have h0:((i:Int)+1)<=20:=by omega
   have h00:0<=((i:Int)+1):=by omega
   constructor
   . have:=p9b hf.1 h00;have h3:((i:Int)+1) * -1000000 ≥ 20 * -1000000:=by omega
     omega
   have:=p9b hf.2 h00;have h3:((i:Int)+1) * 1000000<=20 * 1000000:=by omega
   omega
  unfold sums sz;rw [C2b (by omega) (by omega)];simp only [v9b,B5c];rw [C2b (by omega) (by omega)];simp only [B5c];have:=Q7b r (i+1) (n+((i:Int)+1) * f) (fun x hx=>h x (by simp [hx])) (by omega) (by push_cast;omega) (by push_cast;omega);rw [show ((i+1:Nat):Int)=(i:Int)+1 by push_cast;rfl] at this;exact this
theorem q5a (ht : -1000<=t/\t<=1000) (h:∀ x ∈ l,-1000000<=x/\x<=1000000) (hl:l.length<=12):chain t l=some (cz t l):=by
 unfold chain cz
 rw [C2b (x:=t) (by omega) (by omega)]
 simp only [v9b,B5c]
 rw [C2b (by omega) (by omega)]
 simp only [B5c]
 have:=Q7b l 0 (7 * t) h (by omega) (by omega) (by omega)
 rw [show ((0:Nat):Int)=0 from rfl] at this
 rw [this]
 rfl
end Hp
namespace Hp
structure Tl where
 a:Nat
 k:Nat
 fr:Bool
deriving DecidableEq
def Lay:Nat->List Tl->Nat->Prop
 | s,[],n=>s=n
 | s,t :: r,n=>t.a=s/\3<=t.k/\Lay (s+t.k) r n
theorem Lay.le:∀ {s n:Nat} {L:List Tl},Lay s L n->s<=n
 | _,_,[],h=>Nat.le_of_eq h
 | _,_,t :: r,h=>by have:=Lay.le h.2.2;omega
theorem Lay.mem:∀ {s n:Nat} {L:List Tl} {t:Tl},Lay s L n->t ∈ L->s<=t.a/\t.a+t.k<=n/\3<=t.k
 | _,_,[],_,_,h=>by cases h
 | s,n,u :: r,t,h,ht=>by
  obtain ⟨h1,h2,h3⟩:=h
  rcases E6c.1 ht with rfl | ht
  . have:=Lay.le h3;omega
  have:=Lay.mem h3 ht;omega
theorem Lay.app:∀ {s n:Nat} {P Q:List Tl},Lay s (P ++ Q) n ↔ ∃ m,Lay s P m/\Lay m Q n
 | s,n,[],Q=>by simp [Lay]
 | s,n,t :: P,Q=>by
  simp only [A6c,Lay];rw [Lay.app];constructor
  . rintro ⟨h1,h2,m,h3,h4⟩;exact ⟨m,⟨h1,h2,h3⟩,h4⟩
  rintro ⟨m,⟨h1,h2,h3⟩,h4⟩;exact ⟨h1,h2,m,h3,h4⟩
theorem Lay.sep:∀ {s n:Nat} {L:List Tl} {t u:Tl},Lay s L n->t ∈ L->u ∈ L->t=u \/ t.a+t.k<=u.a \/ u.a+u.k<=t.a
 | _,_,[],_,_,_,h,_=>by cases h
 | s,n,v :: r,t,u,h,ht,hu=>by
  obtain ⟨h1,h2,h3⟩:=h
  rcases E6c.1 ht with e | ht' <;> rcases E6c.1 hu with e' | hu'
  . exact .inl (e.trans e'.symm)
  . have:=Lay.mem h3 hu';subst e;omega
  . have:=Lay.mem h3 ht';subst e';omega
  exact Lay.sep h3 ht' hu'
theorem Lay.same {s:Nat} {L:List Tl} {t u:Tl} (h:Lay s L n) (ht:t ∈ L) (hu:u ∈ L) (e:t.a=u.a):t=u:=by
 have h1:=h.mem ht
 have h2:=h.mem hu
 rcases h.sep ht hu with h3 | h3
 . exact h3
 omega
theorem Lay.parts {s:Nat} {P Q:List Tl} {t:Tl} (h:Lay s (P ++ t :: Q) n):Lay s P t.a/\3<=t.k/\Lay (t.a+t.k) Q n:=by
 obtain ⟨m,h1,h2,h3,h4⟩:=Lay.app.1 h
 subst h2
 exact ⟨h1,h3,h4⟩
def A6a (L:List Tl):List Nat:=(L.filter fun t=>!t.fr).map Tl.a
theorem B4a {L:List Tl}:a ∈ A6a L ↔ ∃ t ∈ L,t.fr=false/\t.a=a:=by
 simp only [A6a,F7c,C0c,Bool.not_eq_true']
 constructor
 . rintro ⟨t,⟨h1,h2⟩,h3⟩;exact ⟨t,h1,h2,h3⟩
 rintro ⟨t,h1,h2,h3⟩
 exact ⟨t,⟨h1,h2⟩,h3⟩
theorem D2a (P Q:List Tl):A6a (P ++ Q)=A6a P ++ A6a Q:=by simp [A6a]
theorem f2a:∀ {s n:Nat} {L:List Tl},Lay s L n->(A6a L).Pairwise (· < ·)
 | _,_,[],_=>List.Pairwise.nil
 | s,n,t :: r,h=>by
  obtain ⟨h1,h2,h3⟩:=h;have ih:=f2a h3;have e:A6a (t :: r)=(if t.fr then [] else [t.a]) ++ A6a r:=by
   cases hf:t.fr <;> simp [A6a,hf]
  rw [e]
  cases hf:t.fr
  . simp only [x6b,H1c,t1b,w3b];refine ⟨fun b hb=>?_,ih⟩;obtain ⟨u,hu,_,rfl⟩:=B4a.1 hb;have:=Lay.mem h3 hu;omega
  simpa using ih
def a4a:List Tl->Int->Int
 | [],x=>x
 | t :: r,x=>if t.fr then (t.a:Int) else a4a r x
def B9a:Nat->List Tl->Nat
 | l,[]=>l
 | l,t :: r=>if t.fr then B9a (t.a+2) r else B9a l r
def B6a (f:Nat->Int):Nat->List Tl->Int->Prop
 | l,[],x=>f l=x
 | l,t :: r,x=>if t.fr then f l=t.a/\B6a f (t.a+2) r x else B6a f l r x
theorem B6a.head {f:Nat->Int}:∀ {l:Nat} {L:List Tl} {x:Int},B6a f l L x->f l=a4a L x
 | _,[],_,h=>h
 | l,t :: r,x,h=>by
  unfold B6a at h;unfold a4a
  cases hf:t.fr
  . rw [hf] at h
    simpa using B6a.head (by simpa using h)
  rw [hf] at h;simp only [H2c] at h ⊢;exact h.1
theorem B6a.app {f:Nat->Int}:∀ {l:Nat} {P Q:List Tl} {x:Int},B6a f l (P ++ Q) x ↔ B6a f l P (a4a Q x)/\B6a f (B9a l P) Q x
 | l,[],Q,x=>by
  simp only [C1c,B6a,B9a];exact ⟨fun h=>⟨h.head,h⟩,fun h=>h.2⟩
 | l,t :: P,Q,x=>by
  simp only [A6c,B6a,B9a]
  cases hf:t.fr
  . simpa using B6a.app
  simp only [H2c];rw [B6a.app];exact ⟨fun h=>⟨⟨h.1,h.2.1⟩,h.2.2⟩,fun h=>⟨h.1.1,h.1.2,h.2⟩⟩
theorem T4a:∀ {l:Nat} {P Q:List Tl},B9a l (P ++ Q)=B9a (B9a l P) Q
 | _,[],_=>rfl
 | l,t :: P,Q=>by
  simp only [A6c,B9a]
  cases t.fr <;> simp [T4a]
theorem U8a:∀ {l:Nat} {L:List Tl},B9a l L=l \/ ∃ t ∈ L,t.fr=true/\B9a l L=t.a+2
 | l,[]=>.inl rfl
 | l,t :: r=>by
  unfold B9a
  cases hf:t.fr
  . simp only [x6b,H1c]
    rcases @U8a l r with h | ⟨u,hu,h1,h2⟩
    . exact .inl h
    exact .inr ⟨u,by simp [hu],h1,h2⟩
  simp only [H2c]
  rcases @U8a (t.a+2) r with h | ⟨u,hu,h1,h2⟩
  . exact .inr ⟨t,by simp,hf,h⟩
  exact .inr ⟨u,by simp [hu],h1,h2⟩
theorem b1b {s l:Nat} {L:List Tl} (h:Lay s L n) (hl:l<=s):l<=B9a l L/\B9a l L<=n:=by
 have hn:=h.le
 rcases @U8a l L with e | ⟨t,ht,_,e⟩
 . rw [e];omega
 have:=h.mem ht
 rw [e];omega
theorem B6a.congr {f g:Nat->Int}:∀ {l:Nat} {L:List Tl} {x:Int},B6a f l L x->g l=f l->(∀ t ∈ L,t.fr=true->g (t.a+2)=f (t.a+2))->B6a g l L x
 | _,[],_,h,e,_=>e.trans h
 | l,t :: r,x,h,e,hm=>by
  unfold B6a at h ⊢
  cases hf:t.fr
  . rw [hf] at h;simp only [x6b,H1c] at h ⊢;exact B6a.congr h e fun u hu=>hm u (by simp [hu])
  rw [hf] at h;simp only [H2c] at h ⊢;exact ⟨e.trans h.1,B6a.congr h.2 (hm t (by simp) hf) fun u hu=>hm u (by simp [hu])⟩
theorem B6a.turn {f g:Nat->Int}:∀ {s n l:Nat} {L:List Tl} {x:Int} (y:Int),B6a f l L x->Lay s L n->l<=s->g (B9a l L)=y->(l ≠ B9a l L->g l=f l)->(∀ t ∈ L,t.fr=true->t.a+2 ≠ B9a l L->g (t.a+2)=f (t.a+2))->B6a g l L y
 | _,_,_,[],_,_,_,_,_,e,_,_=>e
 | s,n,l,t :: r,x,y,h,hL,hl,e,h0,hm=>by
  obtain ⟨h1,h2,h3⟩:=hL;unfold B6a at h ⊢;unfold B9a at e h0 hm
  cases hf:t.fr
  . rw [hf] at h;simp only [hf,x6b,H1c] at h e h0 hm ⊢;exact B6a.turn y h h3 (by omega) e h0 fun u hu=>hm u (by simp [hu])
  rw [hf] at h;simp only [hf,H2c] at h e h0 hm ⊢;have:=b1b h3 (l:=t.a+2) (by omega);exact ⟨(h0 (by omega)).trans h.1,B6a.turn y h.2 h3 (by omega) e (fun hne=>hm t (by simp) hf hne) fun u hu=>hm u (by simp [hu])⟩
def Sep:List Tl->Prop
 | t :: u :: r=>¬ (t.fr=true/\u.fr=true)/\Sep (u :: r)
 | _=>True
theorem Sep.tail {t:Tl} {r:List Tl} (h:Sep (t :: r)):Sep r:=by
 cases r with
 | nil=>trivial
 | cons u r=>exact h.2
def hdF:List Tl->Bool
 | []=>false
 | t :: _=>t.fr
def ltF:List Tl->Bool
 | []=>false
 | [t]=>t.fr
 | _ :: r=>ltF r
theorem Sep.app:∀ {P Q:List Tl},Sep (P ++ Q) ↔ Sep P/\Sep Q /\ ¬ (ltF P=true/\hdF Q=true)
 | [],Q=>by simp [Sep,ltF]
 | [t],[]=>by simp [Sep,hdF]
 | [t],u :: Q=>by
  simp only [t1b,Sep,ltF,hdF];constructor
  . rintro ⟨h1,h2⟩;exact ⟨trivial,h2,h1⟩
  rintro ⟨_,h2,h1⟩;exact ⟨h1,h2⟩
 | t :: u :: P,Q=>by
  have ih:=@Sep.app (u :: P) Q;simp only [A6c] at ih;simp only [A6c,Sep,ltF,ih];constructor
  . rintro ⟨h1,h2,h3,h4⟩;exact ⟨⟨h1,h2⟩,h3,h4⟩
  rintro ⟨⟨h1,h2⟩,h3,h4⟩;exact ⟨h1,h2,h3,h4⟩
theorem I2b:∀ (P:List Tl) (t:Tl),ltF (P ++ [t])=t.fr
 | [],_=>rfl
 | [u],_=>rfl
 | u :: v :: P,t=>by
  have:=I2b (v :: P) t
  simpa [ltF] using this
def G3a (f:Nat->Int) (z:List Int) (t:Tl):Prop:=
 if t.fr then f t.a=0/\f (t.a+1)=t.k /\ ∀ j,t.a+3<=j->j < t.a+t.k->f j=0 else okTag z (f t.a)=true/\t.k=wz z (f t.a)
theorem G3a.free {f:Nat->Int} {t:Tl} (h:G3a f z t) (hf:t.fr=true):f t.a=0/\f (t.a+1)=t.k /\ ∀ j,t.a+3<=j->j < t.a+t.k->f j=0:=by
 unfold G3a at h
 rw [hf] at h
 exact h
theorem G3a.cell {f:Nat->Int} {t:Tl} (h:G3a f z t) (hf:t.fr=false):okTag z (f t.a)=true/\t.k=wz z (f t.a):=by
 unfold G3a at h
 rw [hf] at h
 simpa using h
theorem G3a.congr {f g:Nat->Int} {t:Tl} (h:G3a f z t) (ha:g t.a=f t.a) (hf:t.fr=true->g (t.a+1)=f (t.a+1) /\ ∀ j,t.a+3<=j->j < t.a+t.k->g j=f j):G3a g z t:=by
 unfold G3a at h ⊢
 cases e:t.fr
 . rw [e] at h;simp only [x6b,H1c] at h ⊢;rw [ha];exact h
 rw [e] at h
 simp only [H2c] at h ⊢
 obtain ⟨h1,h2⟩:=hf e
 exact ⟨ha.trans h.1,h1.trans h.2.1,fun j hj hk=>(h2 j hj hk).trans (h.2.2 j hj hk)⟩
structure Parts (f:Nat->Int) (z:List Int) (L:List Tl) (n:Nat):Prop where
 lay:Lay 17 L n
 links:B6a f 16 L 0
 sep:Sep L
 ok:∀ t ∈ L,G3a f z t
namespace Parts
variable {f g:Nat->Int} {z:List Int} {L:List Tl} {n:Nat}
theorem congr (h:Parts f z L n) (h16:g 16=f 16) (hc:∀ t ∈ L,g t.a=f t.a) (hf:∀ t ∈ L,t.fr=true -> ∀ j,t.a<=j->j < t.a+t.k->g j=f j):Parts g z L n:=by
 refine ⟨h.lay,h.links.congr h16 fun t ht hfr=>?_,h.sep,fun t ht=>(h.ok t ht).congr (hc t ht) fun hfr=>⟨?_,fun j hj hk=>hf t ht hfr j (by omega) hk⟩⟩
 . have:=h.lay.mem ht;exact hf t ht hfr _ (by omega) (by omega)
 have:=h.lay.mem ht
 exact hf t ht hfr _ (by omega) (by omega)
end Parts
end Hp
namespace Hp
def Path (f:Nat->Int):Nat->List Nat->Prop
 | l,[]=>f l=0
 | l,a :: r=>f l=(a:Int)/\a ≠ 0/\Path f (a+3) r
theorem Path.congr {f g:Nat->Int}:∀ {l:Nat} {r:List Nat},Path f l r->g l=f l->(∀ a ∈ r,g (a+3)=f (a+3))->Path g l r
 | _,[],h,e,_=>e.trans h
 | _,a :: r,h,e,hm=>⟨e.trans h.1,h.2.1,Path.congr h.2.2 (hm a (by simp)) fun b hb=>hm b (by simp [hb])⟩
structure e5a (f:Nat->Int) (z:List Int) (Lv:List Nat) (ch:Nat->List Nat):Prop where
 path:∀ c,c < 16->Path f c (ch c)
 nodup:∀ c,c < 16->(ch c).Nodup
 mem:∀ c,c < 16 -> ∀ a,a ∈ ch c ↔ a ∈ Lv/\cz (f a) (fz f z a)=c
structure Cells (f:Nat->Int) (z o:List Int) (Lv:List Nat):Prop where
 tags:∀ a ∈ Lv,okTag z (f a)=true
 ends:∀ a ∈ Lv,B1a (f a)=true -> -9999<=f (a+4)/\f (a+4)<=9999/\(20 < f a->f (a+4)=0)
 kids:∀ a ∈ Lv,∀ x ∈ kz f z a,∃ b ∈ Lv,x=(b:Int)/\rank o (f a) < rank o (f b)
 flat:∀ a ∈ Lv,B1a (f a)=false->Hs.alike (fz f z a)=false
 one:∀ a ∈ Lv,∀ b ∈ Lv,f a=f b->fz f z a=fz f z b->a=b
def cnt (f:Nat->Int) (z:List Int) (a:Nat):List Nat->Nat
 | []=>0
 | b :: r=>(kz f z b).count (a:Int)+cnt f z a r
def Uses (f:Nat->Int) (z:List Int) (Lv Src:List Nat):Prop:=∀ a ∈ Lv,f (a+1)=cnt f z a Src
def Holds (f:Nat->Int) (Lv:List Nat) (B:Nat):Prop:=∀ a ∈ Lv,0<=f (a+2)/\f (a+2)<=B
theorem E2b {f g:Nat->Int} (h0:g a=f a) (h:∀ i,i < wz z (f a)-4->g (a+4+i)=f (a+4+i)):fz g z a=fz f z a/\kz g z a=kz f z a:=by
 have e:fz g z a=fz f z a:=by
  unfold fz;rw [h0];exact U7a h
 refine ⟨e, ?_⟩
 unfold kz
 rw [h0,e]
def Same (f g:Nat->Int) (z:List Int) (Lv:List Nat):Prop:=∀ a ∈ Lv,g a=f a /\ ∀ i,i < wz z (f a)-4->g (a+4+i)=f (a+4+i)
namespace Same
variable {f g:Nat->Int} {z o:List Int} {Lv Src:List Nat} {ch:Nat->List Nat}
theorem fz_ (h:Same f g z Lv) (ha:a ∈ Lv):fz g z a=fz f z a:=(E2b (h a ha).1 (h a ha).2).1
theorem kz_ (h:Same f g z Lv) (ha:a ∈ Lv):kz g z a=kz f z a:=(E2b (h a ha).1 (h a ha).2).2
theorem cells (h:Same f g z Lv) (hz:Fr z) (k:Cells f z o Lv):Cells g z o Lv where
 tags a ha:=by rw [(h a ha).1];exact k.tags a ha
 ends a ha he:=by
  have e:=(h a ha).1;rw [e] at he ⊢;have e4:g (a+4)=f (a+4):=by
   have:=(h a ha).2 0 (by have:=S6a hz (k.tags a ha);omega)
   simpa using this
  rw [e4];exact k.ends a ha he
 kids a ha x hx:=by
  rw [h.kz_ ha] at hx;obtain ⟨b,hb,e,hr⟩:=k.kids a ha x hx;refine ⟨b,hb,e, ?_⟩;rw [(h a ha).1,(h b hb).1];exact hr
 flat a ha he:=by
  rw [(h a ha).1] at he;rw [h.fz_ ha];exact k.flat a ha he
 one a ha b hb h1 h2:=by
  rw [(h a ha).1,(h b hb).1] at h1;rw [h.fz_ ha,h.fz_ hb] at h2;exact k.one a ha b hb h1 h2
theorem chains (h:Same f g z Lv) (k:e5a f z Lv ch) (h0:∀ c,c < 16->g c=f c) (h3:∀ a ∈ Lv,g (a+3)=f (a+3)):e5a g z Lv ch where
 path c hc:=(k.path c hc).congr (h0 c hc) fun a ha=>h3 a ((k.mem c hc a).1 ha).1
 nodup:=k.nodup
 mem c hc a:=by
  rw [k.mem c hc a];constructor
  . rintro ⟨h1,h2⟩;exact ⟨h1,by rw [(h a h1).1,h.fz_ h1];exact h2⟩
  rintro ⟨h1,h2⟩;rw [(h a h1).1,h.fz_ h1] at h2;exact ⟨h1,h2⟩
theorem cnt_ (h:Same f g z Lv) (a:Nat):∀ {Src:List Nat},(∀ b ∈ Src,b ∈ Lv)->cnt g z a Src=cnt f z a Src
 | [],_=>rfl
 | b :: r,hs=>by
  unfold cnt;rw [h.kz_ (hs b (by simp)),cnt_ h a fun c hc=>hs c (by simp [hc])]
theorem uses (h:Same f g z Lv) (k:Uses f z Lv Src) (hs:∀ b ∈ Src,b ∈ Lv) (h1:∀ a ∈ Lv,g (a+1)=f (a+1)):Uses g z Lv Src:=fun a ha=>by
 rw [h1 a ha,h.cnt_ a hs]
 exact k a ha
end Same
structure FrOk (z o:List Int):Prop extends Fr z where
 len:o.length=z.length
 perm:∀ i:Nat,i < z.length->(i:Int) ∈ o
 rng:∀ x ∈ o,0<=x/\x < z.length
 nodup:o.Nodup
structure Wf (S:Hs) (B:Nat) (L:List Tl) (ch:Nat->List Nat):Prop where
 fr:FrOk S.sizes S.order
 lo:20<=S.words.length
 hi:S.words.length<=100000
 bd:B<=100000
 parts:Parts (ow S.words) S.sizes L S.words.length
 taken:S.taken=A6a L
 chains:e5a (ow S.words) S.sizes S.taken ch
 cells:Cells (ow S.words) S.sizes S.order S.taken
 uses:Uses (ow S.words) S.sizes S.taken S.taken
 holds:Holds (ow S.words) S.taken B
namespace Wf
variable {S:Hs} {B:Nat} {L:List Tl} {ch:Nat->List Nat}
theorem part (h:Wf S B L ch) (ha:a ∈ S.taken):(⟨a,wz S.sizes (ow S.words a),false⟩:Tl) ∈ L/\17<=a/\a+wz S.sizes (ow S.words a)<=S.words.length/\5<=wz S.sizes (ow S.words a)/\wz S.sizes (ow S.words a)<=16:=by
 rw [h.taken] at ha
 obtain ⟨t,ht,hf,rfl⟩:=B4a.1 ha
 obtain ⟨h1,h2⟩:=(h.parts.ok t ht).cell hf
 have h3:=h.parts.lay.mem ht
 have h4:=S6a h.fr.toFr h1
 rw [<- h2]
 rw [<- h2] at h4
 refine ⟨?_,h3.1,h3.2.1,h4.2.1,h4.2.2⟩
 have:(⟨t.a,t.k,false⟩:Tl)=t:=by
  cases t
  simp only at hf;subst hf;rfl
 rw [this]
 exact ht
theorem tag_ (h:Wf S B L ch) (ha:a ∈ S.taken):S.tag a=some (ow S.words a):=G7b (by have:=h.part ha;omega)
theorem t2a (h:Wf S B L ch) (ha:a ∈ S.taken):S.fields a=some (fz (ow S.words) S.sizes a):=j5a h.fr.toFr (h.cells.tags a ha) (h.part ha).2.2.1
theorem U1b (h:Wf S B L ch) (ha:a ∈ S.taken):S.kids a=some (kz (ow S.words) S.sizes a):=h2a h.fr.toFr (h.cells.tags a ha) (h.part ha).2.2.1
theorem wide_ (h:Wf S B L ch) (ha:a ∈ S.taken):S.k9a a=some (wz S.sizes (ow S.words a)):=i3a h.fr.toFr (by have:=h.part ha;omega) (h.cells.tags a ha)
theorem H7b (h:Wf S B L ch) (ha:a ∈ S.taken):∀ x ∈ fz (ow S.words) S.sizes a,-1000000<=x/\x<=1000000:=by
 intro x hx
 cases he:B1a (ow S.words a) with
 | true=>
  obtain ⟨k,hk,rfl⟩:=a9a.1 hx;have e:wz S.sizes (ow S.words a)=5:=by simp [wz,he]
  have:k=0:=by omega
  subst this;have:=h.cells.ends a ha he;rw [G0c];omega
 | false=>
  have hk:x ∈ kz (ow S.words) S.sizes a:=by
   unfold kz;rw [he]
   simpa using hx
  obtain ⟨b,hb,rfl,_⟩:=h.cells.kids a ha x hk;have:=h.part hb;have:=h.hi;omega
theorem W0a (h:Wf S B L ch) (ha:a ∈ S.taken):1<=ow S.words a/\ow S.words a<=24:=Q8a h.fr.toFr (h.cells.tags a ha)
theorem H0b (h:Wf S B L ch) (ha:a ∈ S.taken):chain (ow S.words a) (fz (ow S.words) S.sizes a)=some (cz (ow S.words a) (fz (ow S.words) S.sizes a)):=by
 have h1:=h.W0a ha
 have h2:=h.part ha
 exact q5a (by omega) (h.H7b ha) (by rw [D7a];omega)
theorem up (h:Wf S B L ch):S.taken.Pairwise (· < ·):=by
 rw [h.taken]
 exact f2a h.parts.lay
theorem sep (h:Wf S B L ch) (ha:a ∈ S.taken) (hb:b ∈ S.taken):a=b \/ a+wz S.sizes (ow S.words a)<=b \/ b+wz S.sizes (ow S.words b)<=a:=by
 rcases h.parts.lay.sep (h.part ha).1 (h.part hb).1 with e | e
 . injection e with e1
   exact .inl e1
 exact .inr e
theorem apart (h:Wf S B L ch) {t:Tl} (ha:a ∈ S.taken) (ht:t ∈ L) (hf:t.fr=true):a+wz S.sizes (ow S.words a)<=t.a \/ t.a+t.k<=a:=by
 rcases h.parts.lay.sep (h.part ha).1 ht with e | e
 . rw [<- e] at hf
   cases hf
 exact e
end Wf
theorem C4a:∀ {l m:List Nat},l.Nodup->(∀ a ∈ l,a ∈ m)->l.length<=m.length
 | [],_,_,_=>G9c _
 | a :: r,m,hp,hm=>by
  have ha:a ∈ m:=hm a (by simp);obtain ⟨h1,h2⟩:=C2c.1 hp;have:=C4a (l:=r) (m:=m.erase a) h2 (fun b hb=>(t9b (by rintro rfl;exact h1 hb)).2 (hm b (by simp [hb])));rw [r3b ha] at this;have:=s2b ha;simp only [A5c];omega
theorem h5b:∀ {m n:Nat} {T:List Nat},T.Pairwise (· < ·)->(∀ a ∈ T,m<=a/\a < n)->m<=n->T.length+m<=n
 | m,n,[],_,_,h=>by simpa using h
 | m,n,a :: r,hp,hr,_=>by
  obtain ⟨h1,h2⟩:=w3b.1 hp;have ha:=hr a (by simp);have:=h5b (m:=a+1) h2 (fun b hb=>⟨h1 b hb,(hr b (by simp [hb])).2⟩) (by omega);simp only [A5c];omega
theorem Wf.few {L:List Tl} {ch:Nat->List Nat} (h:Wf S B L ch):S.taken.length+17<=S.words.length:=
 h5b h.up (fun a ha=>by have:=h.part ha;omega) (by have:=h.lo;omega)
theorem z3a {S:Hs} {B:Nat} {L:List Tl} {ch:Nat->List Nat} (h:Wf S B L ch) (t:Int) (fs:List Int):∀ (r:List Nat) (l m:Nat),Path (ow S.words) l r->(∀ a ∈ r,a ∈ S.taken)->r.length < m ->
    S.H0a t fs m (ow S.words l).toNat=some ((r.find? fun a=>decide (ow S.words a=t/\fz (ow S.words) S.sizes a=fs)).getD 0)
  | [],l,m,hp,_,hm=>by
   cases m with
   | zero=>simp at hm
   | succ m=>
    have e:ow S.words l=0:=hp;simp [Hs.H0a,e]
  | a :: r,l,m,hp,hr,hm=>by
   cases m with
   | zero=>simp at hm
   | succ m=>
    obtain ⟨e,h0,hp⟩:=hp;have ha:=hr a (by simp);have hl:=h.part ha;rw [e];unfold Hs.H0a;rw [z5b,H4c h0,h.tag_ ha,h.t2a ha];simp only [v9b,B5c]
    by_cases hq:ow S.words a=t/\fz (ow S.words) S.sizes a=fs
    . rw [H5c hq,List.find?_cons_of_pos (by simpa using hq)];rfl
    rw [H4c hq,List.find?_cons_of_neg (by simpa using hq)];have hlt:a+3 < S.words.length:=by omega
    have hx:0<=ow S.words (a+3):=by
     cases r with
     | nil=>
      have e':ow S.words (a+3)=0:=hp;omega
     | cons b r=>have:=hp.1;omega
    have e3:ra S.words (a+3)=some (ow S.words (a+3)).toNat:=Y5a hlt (by omega);rw [e3];simp only [B5c];exact z3a h t fs r (a+3) m hp (fun b hb=>hr b (by simp [hb])) (by simpa using hm)
theorem look_eq {L:List Tl} {ch:Nat->List Nat} (h:Wf S B L ch) (hc:chain t fs=some c) (h16:c < 16) :
    S.look t fs=some (((ch c).find? fun a=>decide (ow S.words a=t/\fz (ow S.words) S.sizes a=fs)).getD 0):=by
  have hlo:=h.lo;have hp:=h.chains.path c h16;have hm:∀ a ∈ ch c,a ∈ S.taken:=fun a ha=>((h.chains.mem c h16 a).1 ha).1
  have hln:=C4a (h.chains.nodup c h16) hm;have hx:0<=ow S.words c:=by
   cases hcc:ch c with
   | nil=>
    rw [hcc] at hp;have e':ow S.words c=0:=hp;omega
   | cons b r=>rw [hcc] at hp;have:=hp.1;omega
  have e3:ra S.words c=some (ow S.words c).toNat:=Y5a (by omega) (by omega);unfold Hs.look;rw [hc];simp only [v9b,B5c,e3];exact z3a h t fs _ _ _ hp hm (by have:=h.few;unfold Hs.fuel;omega)
theorem Z4b {L:List Tl} {ch:Nat->List Nat} (h:Wf S B L ch) (ha:a ∈ S.taken):S.look (ow S.words a) (fz (ow S.words) S.sizes a)=some a:=by
 rw [look_eq h (h.H0b ha) (P0a _ _)]
 congr 1
 have hm:=(h.chains.mem _ (P0a _ _) a).2 ⟨ha,rfl⟩
 cases hf:(ch (cz (ow S.words a) (fz (ow S.words) S.sizes a))).find? (fun b=>decide (ow S.words b=ow S.words a/\fz (ow S.words) S.sizes b=fz (ow S.words) S.sizes a)) with
 | none=>
  rw [w4b] at hf;exact absurd (by simp) (hf a hm)
 | some b=>
  have h1:=List.find?_some hf;have h2:=List.mem_of_find?_eq_some hf;simp only [A1c] at h1;exact h.cells.one b ((h.chains.mem _ (P0a _ _) b).1 h2).1 a ha h1.1 h1.2
theorem j1a {L:List Tl} {ch:Nat->List Nat} (h:Wf S B L ch) (hc:chain t fs=some c) (h16:c < 16) :
    (∃ a ∈ S.taken,ow S.words a=t/\fz (ow S.words) S.sizes a=fs/\S.look t fs=some a) \/ ((∀ a ∈ S.taken,¬ (ow S.words a=t/\fz (ow S.words) S.sizes a=fs))/\S.look t fs=some 0):=by
  by_cases hx:∃ a ∈ S.taken,ow S.words a=t/\fz (ow S.words) S.sizes a=fs
  . obtain ⟨a,ha,h1,h2⟩:=hx;left;refine ⟨a,ha,h1,h2, ?_⟩;subst h1 h2;exact Z4b h ha
  right;refine ⟨fun a ha hh=>hx ⟨a,ha,hh⟩, ?_⟩;rw [look_eq h hc h16]
  congr 1
  rw [w4b.2]
  . rfl
  intro a ha;simp only [A1c];exact fun hh=>hx ⟨a,((h.chains.mem c h16 a).1 ha).1,hh⟩
end Hp
namespace Hp
theorem Wf.ne {L:List Tl} {ch:Nat->List Nat} (h:Wf S B L ch) (ha:a ∈ S.taken) (hb:b ∈ S.taken) (hi:i < wz S.sizes (ow S.words a)) (hj:j < wz S.sizes (ow S.words b)) (hne:a ≠ b \/ i ≠ j):a+i ≠ b+j:=by
 rcases h.sep ha hb with rfl | e | e <;> omega
theorem Wf.held {B':Nat} {L:List Tl} {ch:Nat->List Nat} (h:Wf S B L ch) {v:Int} (ha:a ∈ S.taken) (hv:0<=v/\v<=B') (hB:B<=B') (hB':B'<=100000) (hl:W.length=S.words.length) (hg:∀ j,ow W j=if j=a+2 then v else ow S.words j):Wf { S with words:=W } B' L ch:=by
 have pa:=h.part ha
 have g_:∀ j,j ≠ a+2->ow W j=ow S.words j:=fun j hj=>by rw [hg,H4c hj]
 have hs:Same (ow S.words) (ow W) S.sizes S.taken:=fun b hb=>by
  have pb:=h.part hb;refine ⟨g_ b ?_,fun i hi=>g_ _ ?_⟩
  . have:=h.ne hb ha (i:=0) (j:=2) (by omega) (by omega) (.inr (by omega))
    simpa using this
  have:=h.ne hb ha (i:=4+i) (j:=2) (by omega) (by omega) (.inr (by omega));omega
 have hx:∀ b ∈ S.taken,∀ i,i < 4->i ≠ 2->ow W (b+i)=ow S.words (b+i):=fun b hb i hi hn=>by
  have pb:=h.part hb;exact g_ _ (h.ne hb ha (by omega) (by omega) (.inr hn))
 exact
 { fr:=h.fr
   lo:=by rw [show ({ S with words:=W }:Hs).words.length=S.words.length from hl];exact h.lo
   hi:=by rw [show ({ S with words:=W }:Hs).words.length=S.words.length from hl];exact h.hi
   bd:=hB'
   parts:=by
    rw [show ({ S with words:=W }:Hs).words.length=S.words.length from hl];refine h.parts.congr (g_ _ (by omega)) (fun t ht=>?_) fun t ht hf j h1 h2=>g_ _ ?_
    . cases hf:t.fr with
      | false=>
       have:t.a ∈ S.taken:=by rw [h.taken];exact B4a.2 ⟨t,ht,hf,rfl⟩
       have:=hx _ this 0 (by omega) (by omega)
       simpa using this
      | true=>
       have:=h.apart ha ht hf;have:=h.parts.lay.mem ht;exact g_ _ (by omega)
    have:=h.apart ha ht hf;omega
   taken:=h.taken
   chains:=hs.chains h.chains (fun c hc=>g_ _ (by omega)) fun b hb=>hx b hb 3 (by omega) (by omega)
   cells:=hs.cells h.fr.toFr h.cells
   uses:=hs.uses h.uses (fun b hb=>hb) fun b hb=>hx b hb 1 (by omega) (by omega)
   holds:=fun b hb=>by
    show 0<=ow W (b+2)/\ow W (b+2)<=B'
    rw [hg]
    split
    . exact hv
    . have:=h.holds b hb;omega }
theorem U1a (h:S.has x=true):∃ a:Nat,x=a/\a ∈ S.taken:=by
 unfold Hs.has at h
 simp only [B8c,A1c,t3b] at h
 exact ⟨x.toNat,by omega,h.2⟩
theorem v1a (h:a ∈ S.taken):S.has (a:Int)=true:=by simp [Hs.has,h]
theorem l5b {L:List Tl} {ch:Nat->List Nat} (h:Wf S B L ch) (hB:B < 100000) (ha:a ∈ S.taken):∃ W,S.hold a=some (0,{ S with words:=W })/\Wf { S with words:=W } (B+1) L ch/\W.length=S.words.length /\ ∀ j,ow W j=if j=a+2 then ow S.words (a+2)+1 else ow S.words j:=by
 have pa:=h.part ha
 have hh:=h.holds a ha
 obtain ⟨W,hw,hl,hg⟩:=J8a (W:=S.words) (i:=a+2) (ow S.words (a+2)+1) (by omega)
 refine ⟨W, ?_,h.held ha (by omega) (by omega) (by omega) hl hg,hl,hg⟩
 unfold Hs.hold
 rw [v1a ha]
 simp only [x7b,H1c,z5b]
 rw [g5a (by omega) (by omega) (by omega)]
 simp only [v9b,B5c,hw]
 rfl
theorem o1b {L:List Tl} {ch:Nat->List Nat} (h:Wf S B L ch) (ha:a ∈ S.taken) (h0:ow S.words (a+2) ≠ 0):∃ W,S.drop a=some (0,{ S with words:=W })/\Wf { S with words:=W } B L ch/\W.length=S.words.length /\ ∀ j,ow W j=if j=a+2 then ow S.words (a+2)-1 else ow S.words j:=by
 have pa:=h.part ha
 have hh:=h.holds a ha
 have hb:=h.bd
 obtain ⟨W,hw,hl,hg⟩:=J8a (W:=S.words) (i:=a+2) (ow S.words (a+2)-1) (by omega)
 refine ⟨W, ?_,h.held ha (by omega) (by omega) (by omega) hl hg,hl,hg⟩
 unfold Hs.drop
 rw [v1a ha]
 simp only [x7b,H1c,z5b]
 rw [g5a (by omega) (by omega) (by omega)]
 simp only [v9b,B5c]
 rw [H4c h0,hw]
 rfl
theorem k3b {L:List Tl} {ch:Nat->List Nat} (h:Wf S B L ch) (ha:a ∈ S.taken) (h0:ow S.words (a+2)=0):S.drop a=some (9,S):=by
 have pa:=h.part ha
 have hh:=h.holds a ha
 have hb:=h.bd
 unfold Hs.drop
 rw [v1a ha]
 simp only [x7b,H1c,z5b]
 rw [g5a (by omega) (by omega) (by omega)]
 simp only [v9b,B5c]
 rw [H5c h0]
def widths (f:Nat->Int) (z:List Int):List Nat->Nat
 | []=>0
 | a :: r=>wz z (f a)+widths f z r
theorem Q1a (f:Nat->Int) (z:List Int):∀ P Q:List Nat,widths f z (P ++ Q)=widths f z P+widths f z Q
 | [],Q=>by simp [widths]
 | a :: P,Q=>by simp only [A6c,widths,Q1a f z P Q];omega
theorem y5a {f:Nat->Int} {z:List Int}:∀ {s n:Nat} {L:List Tl},Lay s L n->(∀ t ∈ L,t.fr=false->t.k=wz z (f t.a))->widths f z (A6a L)+s<=n
 | s,n,[],h,_=>by
  have:s=n:=h;simp [A6a,widths,this]
 | s,n,t :: r,h,hk=>by
  obtain ⟨h1,h2,h3⟩:=h;have ih:=y5a h3 fun u hu=>hk u (by simp [hu])
  have e:A6a (t :: r)=(if t.fr then [] else [t.a]) ++ A6a r:=by
   cases hf:t.fr <;> simp [A6a,hf]
  rw [e,Q1a]
  cases hf:t.fr
  . have:=hk t (by simp) hf;simp only [x6b,H1c,widths];omega
  simp only [H2c,widths];omega
theorem Wf.Q4a {L:List Tl} {ch:Nat->List Nat} (h:Wf S B L ch):widths (ow S.words) S.sizes S.taken+17<=S.words.length:=by
 rw [h.taken]
 exact y5a h.parts.lay fun t ht hf=>((h.parts.ok t ht).cell hf).2
theorem u7a {f:Nat->Int}:(kz f z a).length<=wz z (f a)-4:=by
 unfold kz
 split
 . simp
 rw [D7a]
 exact H0c _
theorem cnt_le {f:Nat->Int} {z:List Int} (a:Nat):∀ Src:List Nat,cnt f z a Src<=widths f z Src
 | []=>H0c _
 | b :: r=>by
  have:=cnt_le (f:=f) (z:=z) a r;have h1:=u0b (a:=(a:Int)) (l:=kz f z b);have h2:=u7a (f:=f) (z:=z) (a:=b);unfold cnt widths;omega
theorem Wf.h7a {L:List Tl} {ch:Nat->List Nat} (h:Wf S B L ch) (ha:a ∈ S.taken):0<=ow S.words (a+1)/\ow S.words (a+1)<=100000:=by
 rw [h.uses a ha]
 have:=cnt_le (f:=ow S.words) (z:=S.sizes) a S.taken
 have:=h.Q4a
 have:=h.hi
 omega
theorem C7b (f:Nat->Int) (z:List Int) (a:Nat):∀ P Q:List Nat,cnt f z a (P ++ Q)=cnt f z a P+cnt f z a Q
 | [],Q=>by simp [cnt]
 | b :: P,Q=>by simp only [A6c,cnt,C7b f z a P Q];omega
theorem g0a {f:Nat->Int} {P Q:List Nat} (h:P.Perm Q):cnt f z a P=cnt f z a Q:=by
 induction h with
 | nil=>rfl
 | cons x _ ih=>simp only [cnt,ih]
 | swap x y l=>simp only [cnt];omega
 | trans _ _ h1 h2=>exact h1.trans h2
theorem F2b (v:Int) (hv : -1<=v/\v<=1) (n:Nat):∀ (j:Nat) (W:List Int),j+n<=W.length->(∀ i,i < n -> ∃ k:Nat,ow W (j+i)=(k:Int)/\k+1 < W.length/\(k+1 < j \/ j+n<=k+1) /\ -1000000000+(n:Int)<=ow W (k+1)/\ow W (k+1)+n<=1000000000) ->
    ∃ W',Hs.use v n j W=some W'/\W'.length=W.length /\ ∀ x,ow W' x=ow W x+v * ((cut (ow W) j n).count ((x:Int)-1):Nat):=by
  induction n with
  | zero=>exact fun j W _ _=>⟨W,rfl,rfl,fun x=>by simp [cut]⟩
  | succ n ih=>
   intro j W hl h;obtain ⟨k,e,hk,hd,b1,b2⟩:=h 0 (by omega);rw [G0c] at e;obtain ⟨W1,hw1,hl1,hg1⟩:=J8a (W:=W) (i:=k+1) (ow W (k+1)+v) hk;have hsame:∀ i,i < n->ow W1 (j+1+i)=ow W (j+1+i):=fun i hi=>by rw [hg1,H4c (by omega)]
   obtain ⟨W',hw',hl',hg'⟩:=ih (j+1) W1 (by omega) (fun i hi=>by
    obtain ⟨k',e',hk',hd',c1,c2⟩:=h (i+1) (by omega);refine ⟨k', ?_,by omega,by omega, ?_, ?_⟩
    . rw [hsame i hi,<- e']
      congr 1
      omega
    . rw [hg1]
      split
      . rename_i heq;rw [heq] at c1;omega
      omega
    . rw [hg1]
      split
      . rename_i heq;rw [heq] at c2;omega
      . omega)
   refine ⟨W', ?_,hl'.trans hl1,fun x=>?_⟩
   . unfold Hs.use;rw [Y5a (by omega) e];simp only [v9b,B5c];rw [g5a hk (by omega) (by omega)];simp only [B5c,hw1];exact hw'
   have e1:cut (ow W) j (n+1)=(k:Int) :: cut (ow W) (j+1) n:=by
    unfold cut;rw [List.range_succ_eq_map,E7c,F8c]
    congr 1
    apply u7b;intro i _;show ow W (j+(i+1))=ow W (j+1+i)
    congr 1
    omega
   rw [hg',U7a hsame,hg1,e1,C3c]
   by_cases hx:x=k+1
   . subst hx;have:((k:Int) == ((k+1:Nat):Int)-1)=true:=by simp
     rw [H5c rfl,H5c this]
     push_cast
     rw [Int.mul_add];omega
   have:((k:Int) == ((x:Nat):Int)-1)=false:=by simp;omega
   rw [H4c hx,this];simp
end Hp
namespace Hp
theorem a2a {s l:Nat} {L:List Tl} (h:Lay s L n) (hl:l < s):l<=B9a l L/\B9a l L < n:=by
 have hn:=h.le
 rcases @U8a l L with e | ⟨t,ht,_,e⟩
 . rw [e];omega
 have:=h.mem ht
 rw [e];omega
def Fits (wide:Nat) (t:Tl):Prop:=t.k=wide \/ wide+3<=t.k
def Y0a (f:Nat->Int) (link:Nat) (t:Tl) (wide:Nat) (j:Nat):Int:=
 if t.a<=j/\j < t.a+wide then 0 else
 if t.k=wide then (if j=link then f (t.a+2) else f j) else
 if j=link then ((t.a+wide:Nat):Int) else if j=t.a+wide+2 then f (t.a+2) else if j=t.a+wide+1 then (t.k:Int)-wide else if j=t.a+wide then 0 else f j
theorem R8a {W:List Int} {z:List Int} {wide:Nat} (hn:W.length<=100000):∀ (Q:List Tl) (l m s:Nat),B6a (ow W) l Q 0->Lay s Q W.length->(∀ t ∈ Q,G3a (ow W) z t)->l < s->l < W.length->(∀ t ∈ Q,t.fr=true -> ¬ Fits wide t)->Q.length < m->Hs.F2a W wide m l=some (0,W)
 | [],l,m,s,h,_,_,_,hlt,_,hm=>by
  cases m with
  | zero=>simp at hm
  | succ m=>
   have e:ow W l=0:=h;unfold Hs.F2a;rw [Y5a (a:=0) hlt (by simpa using e)];rfl
 | t :: r,l,m,s,h,hL,hp,hls,hlt,hf,hm=>by
  obtain ⟨h1,h2,h3⟩:=hL;unfold B6a at h
  cases hfr:t.fr with
  | false=>
   rw [hfr] at h;simp only [x6b,H1c] at h;simp only [A5c] at hm;exact R8a hn r l m _ h h3 (fun u hu=>hp u (by simp [hu])) (by omega) hlt (fun u hu=>hf u (by simp [hu])) (by omega)
  | true=>
   rw [hfr] at h;simp only [H2c] at h;simp only [A5c] at hm
   cases m with
   | zero=>simp at hm
   | succ m=>
    have hle:=h3.le;have hk:=(hp t (by simp)).free hfr;have hnf:=hf t (by simp) hfr;unfold Fits at hnf;unfold Hs.F2a;rw [Y5a hlt h.1];simp only [v9b,B5c];rw [H4c (by omega:¬ t.a=0),g5a (by omega) (by rw [hk.2.1];omega) (by rw [hk.2.1];omega),F7a (by omega:t.a+2 < W.length)];simp only [B5c,hk.2.1];rw [H4c (by omega),H4c (by omega)];exact R8a hn r (t.a+2) m _ h.2 h3 (fun u hu=>hp u (by simp [hu])) (by omega) (by omega) (fun u hu=>hf u (by simp [hu])) (by omega)
theorem T1a {W:List Int} {z:List Int} {wide:Nat} (hn:W.length<=100000) (hw:5<=wide) {t:Tl} {Q2:List Tl} (hfr:t.fr=true) (hfit:Fits wide t):∀ (Q:List Tl) (l m s:Nat),B6a (ow W) l (Q ++ t :: Q2) 0->Lay s (Q ++ t :: Q2) W.length->(∀ v ∈ Q ++ t :: Q2,G3a (ow W) z v)->l < s->l < W.length->(∀ t ∈ Q,t.fr=true -> ¬ Fits wide t)->Q.length < m ->
    ∃ W',Hs.F2a W wide m l=some (t.a,W')/\W'.length=W.length /\ ∀ j,ow W' j=Y0a (ow W) (B9a l Q) t wide j
  | [],l,m,s,h,hL,hp,hls,hlt,_,hm=>by
   cases m with
   | zero=>simp at hm
   | succ m=>
    obtain ⟨h1,h2,h3⟩:=hL;simp only [C1c,B6a,hfr,H2c] at h;have hle:=h3.le;have hk:=(hp t (by simp)).free hfr;unfold Hs.F2a;rw [Y5a hlt h.1];simp only [v9b,B5c];rw [H4c (by omega:¬ t.a=0),g5a (by omega) (by rw [hk.2.1];omega) (by rw [hk.2.1];omega),F7a (by omega:t.a+2 < W.length)];simp only [B5c,hk.2.1,B9a]
    by_cases hkw:t.k=wide
    . rw [H5c (by omega)];obtain ⟨W1,e1,l1,g1⟩:=J8a (W:=W) (i:=l) (ow W (t.a+2)) hlt;obtain ⟨W2,e2,l2,g2⟩:=B0b (W:=W1) (i:=t.a) (n:=wide) (by omega);refine ⟨W2,by rw [e1];simp only [B5c,e2],l2.trans l1,fun j=>?_⟩;rw [g2,g1];unfold Y0a;simp only [hkw,H2c]
    have:wide+3<=t.k:=by unfold Fits at hfit;omega
    rw [H4c (by omega),H5c (by omega)];obtain ⟨W1,e1,l1,g1⟩:=J8a (W:=W) (i:=t.a+wide) 0 (by omega);obtain ⟨W2,e2,l2,g2⟩:=J8a (W:=W1) (i:=t.a+wide+1) ((t.k:Int)-wide) (by omega);obtain ⟨W3,e3,l3,g3⟩:=J8a (W:=W2) (i:=t.a+wide+2) (ow W (t.a+2)) (by omega);obtain ⟨W4,e4,l4,g4⟩:=J8a (W:=W3) (i:=l) ((t.a+wide:Nat):Int) (by omega);obtain ⟨W5,e5,l5,g5⟩:=B0b (W:=W4) (i:=t.a) (n:=wide) (by omega);refine ⟨W5,by simp only [e1,e2,e3,e4,e5,B5c],by omega,fun j=>?_⟩;rw [g5,g4,g3,g2,g1];unfold Y0a;rw [H4c hkw]
  | u :: r,l,m,s,h,hL,hp,hls,hlt,hf,hm=>by
   obtain ⟨h1,h2,h3⟩:=hL;simp only [A6c] at h;unfold B6a at h
   cases hfu:u.fr with
   | false=>
    rw [hfu] at h;simp only [x6b,H1c] at h;simp only [A5c] at hm;have:=T1a hn hw hfr hfit r l m _ h h3 (fun v hv=>hp v (by simp only [A6c,E6c];exact .inr hv)) (by omega) hlt (fun v hv=>hf v (by simp [hv])) (by omega)
    simpa [B9a,hfu] using this
   | true=>
    rw [hfu] at h;simp only [H2c] at h;simp only [A5c] at hm
    cases m with
    | zero=>simp at hm
    | succ m=>
     have hle:=h3.le;have hk:=(hp u (by simp)).free hfu;have hnf:=hf u (by simp) hfu;unfold Fits at hnf;unfold Hs.F2a;rw [Y5a hlt h.1];simp only [v9b,B5c];rw [H4c (by omega:¬ u.a=0),g5a (by omega) (by rw [hk.2.1];omega) (by rw [hk.2.1];omega),F7a (by omega:u.a+2 < W.length)];simp only [B5c,hk.2.1];rw [H4c (by omega),H4c (by omega)];have:=T1a hn hw hfr hfit r (u.a+2) m _ h.2 h3 (fun v hv=>hp v (by simp only [A6c,E6c];exact .inr hv)) (by omega) (by omega) (fun v hv=>hf v (by simp [hv])) (by omega)
     simpa [B9a,hfu] using this
theorem R0a:∀ {s n:Nat} {L:List Tl},Lay s L n->3 * L.length+s<=n
 | s,n,[],h=>by
  have:s=n:=h;simp;omega
 | s,n,t :: r,h=>by
  obtain ⟨h1,h2,h3⟩:=h;have:=R0a h3;simp only [A5c];omega
theorem w1a (wide:Nat):∀ L:List Tl,(∀ t ∈ L,t.fr=true -> ¬ Fits wide t) \/ ∃ P t Q,L=P ++ t :: Q/\(∀ u ∈ P,u.fr=true -> ¬ Fits wide u)/\t.fr=true/\Fits wide t
 | []=>.inl (by simp)
 | t :: r=>by
  by_cases h:t.fr=true/\Fits wide t
  . exact .inr ⟨[],t,r,rfl,by simp,h.1,h.2⟩
  rcases w1a wide r with h' | ⟨P,u,Q,rfl,h1,h2,h3⟩
  . refine .inl fun u hu hf hx=>?_
    rcases E6c.1 hu with rfl | hu
    . exact h ⟨hf,hx⟩
    exact h' u hu hf hx
  refine .inr ⟨t :: P,u,Q,rfl,fun v hv hf hx=>?_,h2,h3⟩
  rcases E6c.1 hv with rfl | hv
  . exact h ⟨hf,hx⟩
  exact h1 v hv hf hx
theorem mem_insert {a x:Nat}:∀ {T:List Nat},x ∈ Hs.insert a T ↔ x=a \/ x ∈ T
 | []=>by simp [Hs.insert]
 | b :: r=>by
  unfold Hs.insert
  split
  . simp
  split
  . rename_i h;subst h;simp
  simp only [E6c,mem_insert (T:=r)];constructor
  . rintro (h | h | h)
    . exact .inr (.inl h)
    . exact .inl h
    exact .inr (.inr h)
  rintro (h | h | h)
  . exact .inr (.inl h)
  . exact .inl h
  exact .inr (.inr h)
theorem A0b {a:Nat}:∀ {T:List Nat},T.Pairwise (· < ·)->(Hs.insert a T).Pairwise (· < ·)
 | [],_=>by simp [Hs.insert]
 | b :: r,h=>by
  obtain ⟨h1,h2⟩:=w3b.1 h;unfold Hs.insert
  split
  . rename_i hab;refine w3b.2 ⟨fun c hc=>?_,h⟩
    rcases E6c.1 hc with rfl | hc
    . exact hab
    have:=h1 c hc;omega
  split
  . rename_i e;subst e;exact h
  refine w3b.2 ⟨fun c hc=>?_,A0b h2⟩
  rcases mem_insert.1 hc with rfl | hc
  . omega
  exact h1 c hc
theorem S1b:∀ {A B:List Nat},A.Pairwise (· < ·)->B.Pairwise (· < ·)->(∀ x,x ∈ A ↔ x ∈ B)->A=B
 | [],[],_,_,_=>rfl
 | [],b :: B,_,_,h=>by have:=(h b).2 (by simp);cases this
 | a :: A,[],_,_,h=>by have:=(h a).1 (by simp);cases this
 | a :: A,b :: B,ha,hb,h=>by
  obtain ⟨a1,a2⟩:=w3b.1 ha;obtain ⟨b1,b2⟩:=w3b.1 hb;have e:a=b:=by
   have ha':=(h a).1 (by simp);have hb':=(h b).2 (by simp)
   rcases E6c.1 ha' with h1 | h1
   . exact h1
   rcases E6c.1 hb' with h2 | h2
   . exact h2.symm
   have:=a1 b h2;have:=b1 a h1;omega
  subst e;rw [S1b a2 b2 fun x=>?_];constructor
  . intro hx
    rcases E6c.1 ((h x).1 (by simp [hx])) with rfl | h'
    . exact absurd (a1 x hx) (E9c _)
    exact h'
  intro hx
  rcases E6c.1 ((h x).2 (by simp [hx])) with rfl | h'
  . exact absurd (b1 x hx) (E9c _)
  exact h'
theorem X2a {a:Nat}:∀ {T:List Nat},a ∉ T->(Hs.insert a T).Perm (a :: T)
 | [],_=>List.Perm.refl _
 | b :: r,h=>by
  have h1:a ≠ b:=fun e=>h (by simp [e])
  have h2:a ∉ r:=fun e=>h (by simp [e])
  unfold Hs.insert
  split
  . exact List.Perm.refl _
  exact ((X2a h2).cons b).trans (List.Perm.swap a b r)
end Hp
namespace Hp
structure New (S:Hs) (t:Int) (fs:List Int):Prop where
 tag:okTag S.sizes t=true
 len:fs.length=wz S.sizes t-4
 ends:B1a t=true -> ∀ x ∈ fs,-9999<=x/\x<=9999/\(20 < t->x=0)
 kids:B1a t=false -> ∀ x ∈ fs,∃ b ∈ S.taken,x=(b:Int)/\rank S.order t < rank S.order (ow S.words b)
 flat:B1a t=false->Hs.alike fs=false
def ksOf (t:Int) (fs:List Int):List Int:=if B1a t then [] else fs
structure Put (S S':Hs) (t:Int) (fs:List Int) (a:Nat):Prop where
 sizes:S'.sizes=S.sizes
 order:S'.order=S.order
 len:S'.words.length=S.words.length
 taken:S'.taken=Hs.insert a S.taken
 new:a ∉ S.taken
 tag:ow S'.words a=t
 fs:fz (ow S'.words) S.sizes a=fs
 one:ow S'.words (a+1)=0
 two:ow S'.words (a+2)=0
 old:Same (ow S.words) (ow S'.words) S.sizes S.taken
 hold:∀ b ∈ S.taken,ow S'.words (b+2)=ow S.words (b+2)
theorem b0b {L:List Tl} {ch:Nat->List Nat} (h:Wf S B L ch) (hn:New S t fs):chain t fs=some (cz t fs):=by
 have h1:=Q8a h.fr.toFr hn.tag
 have h2:=S6a h.fr.toFr hn.tag
 refine q5a (by omega) (fun x hx=>?_) (by rw [hn.len];omega)
 cases he:B1a t with
 | true=>have:=hn.ends he x hx;omega
 | false=>
  obtain ⟨b,hb,rfl,_⟩:=hn.kids he x hx;have:=h.part hb;have:=h.hi;omega
theorem r3a {g:Nat->Int} (h:∀ k,k < fs.length->g (i+k)=fs.getD k 0):cut g i fs.length=fs:=by
 apply y2b
 intro k
 by_cases hk:k < fs.length
 . rw [I5a hk,h k hk,r1b hk];simp [List.getD,r1b hk]
 rw [s9b (by rw [E2a];omega),s9b (by omega)]
theorem B6a.move {f g:Nat->Int}:∀ {l l':Nat} {L:List Tl} {x:Int},B6a f l L x->g l'=f l->(∀ t ∈ L,t.fr=true->g (t.a+2)=f (t.a+2))->B6a g l' L x
 | _,_,[],_,h,e,_=>e.trans h
 | l,l',t :: r,x,h,e,hm=>by
  unfold B6a at h ⊢
  cases hf:t.fr
  . rw [hf] at h;simp only [x6b,H1c] at h ⊢;exact B6a.move h e fun u hu=>hm u (by simp [hu])
  rw [hf] at h;simp only [H2c] at h ⊢;exact ⟨e.trans h.1,B6a.move h.2 (hm t (by simp) hf) fun u hu=>hm u (by simp [hu])⟩
theorem Path.move {f g:Nat->Int}:∀ {l l':Nat} {r:List Nat},Path f l r->g l'=f l->(∀ a ∈ r,g (a+3)=f (a+3))->Path g l' r
 | _,_,[],h,e,_=>e.trans h
 | _,_,a :: r,h,e,hm=>⟨e.trans h.1,h.2.1,Path.move h.2.2 (hm a (by simp)) fun b hb=>hm b (by simp [hb])⟩
theorem Sep.cons {t:Tl} {Q:List Tl}:Sep (t :: Q) ↔ ¬ (t.fr=true/\hdF Q=true)/\Sep Q:=by
 cases Q with
 | nil=>simp [Sep,hdF]
 | cons u r=>rfl
theorem G1b {f:Nat->Int} {z:List Int} {a:Nat}:∀ {Src:List Nat},(∀ b ∈ Src,∀ x ∈ kz f z b,x ≠ (a:Int))->cnt f z a Src=0
 | [],_=>rfl
 | b :: r,h=>by
  unfold cnt;rw [G1b fun c hc=>h c (by simp [hc]),w5b.2 fun hm=>h b (by simp) _ hm rfl]
theorem S9a {f:Nat->Int} {link wide:Nat} {t:Tl} (hf:Fits wide t) (hj:j < t.a \/ t.a+t.k<=j) (hl:j ≠ link):Y0a f link t wide j=f j:=by
 unfold Fits at hf
 unfold Y0a
 rw [H4c (show ¬ (t.a<=j/\j < t.a+wide) by omega)]
 by_cases hk:t.k=wide
 . rw [H5c hk,H4c hl]
 rw [H4c hk,H4c hl,H4c (show ¬ j=t.a+wide+2 by omega),H4c (show ¬ j=t.a+wide+1 by omega),H4c (show ¬ j=t.a+wide by omega)]
theorem use_bd {n:Int} (h1:0<=x) (h2:x<=100000) (h3:0<=n) (h4:n<=100) : -1000000000+n<=x/\x+n<=1000000000:=by omega
theorem i8a {l:Nat} {L:List Tl}:B9a l L=l \/ ∃ t ∈ L,t.fr=true/\B9a l L=t.a+2:=U8a
theorem add_wf {L:List Tl} {ch:Nat->List Nat} (h:Wf S B L ch) (hn:New S t fs) :
    (∃ a ∈ S.taken,ow S.words a=t/\fz (ow S.words) S.sizes a=fs/\S.add t fs=some (a,S)) \/
    (∀ a ∈ S.taken,¬ (ow S.words a=t/\fz (ow S.words) S.sizes a=fs)) /\
     (((∀ u ∈ L,u.fr=true -> ¬ Fits (wz S.sizes t) u)/\S.add t fs=some (0,S)) \/
      ∃ P u Q S',L=P ++ u :: Q/\(∀ v ∈ P,v.fr=true -> ¬ Fits (wz S.sizes t) v)/\u.fr=true/\Fits (wz S.sizes t) u/\S.add t fs=some (u.a,S')/\Put S S' t fs u.a /\
       Wf S' B (P ++ ⟨u.a,wz S.sizes t,false⟩ :: ((if u.k=wz S.sizes t then [] else [⟨u.a+wz S.sizes t,u.k-wz S.sizes t,true⟩]) ++ Q)) (fun c=>if c=cz t fs then u.a :: ch c else ch c)):=by
  have hck:=b0b h hn;have hlen:=hn.len;have hwz:=S6a h.fr.toFr hn.tag;have hlo:=h.lo;have hhi:=h.hi
  rcases j1a h hck (P0a _ _) with ⟨a,ha,h1,h2,h3⟩ | ⟨hmiss,h3⟩
  . left;refine ⟨a,ha,h1,h2, ?_⟩;have:=h.part ha;unfold Hs.add;rw [h3];simp only [v9b,B5c];rw [H5c (by omega)]
  right;refine ⟨hmiss, ?_⟩
  have hadd:S.add t fs=(do
      let (a,W) <- S.take (wz S.sizes t)
      if a=0 then some (0,{ S with words:=W }) else
      let x <- rd W (cz t fs)
      let W <- wr (<- wr W a t) (a+3) x
      let W <- lay W (a+4) fs
      let W <- wr W (cz t fs) a
      let S1:Hs:={ S with words:=W,taken:=Hs.insert a S.taken }
      let W <- Hs.use 1 (<- S1.kids a).length (a+4) W
      some (a,{ S1 with words:=W })):=by
    unfold Hs.add;rw [h3,hwz.1,hck];simp only [v9b,B5c];rfl
  have hLl:=R0a h.parts.lay
  rcases w1a (wz S.sizes t) L with hf | ⟨P,u,Q,hL,hP,hu,hfit⟩
  . left;refine ⟨hf, ?_⟩;have e:=R8a (W:=S.words) (z:=S.sizes) (wide:=wz S.sizes t) hhi L 16 S.fuel 17 h.parts.links h.parts.lay h.parts.ok (by omega) (by omega) hf (by unfold Hs.fuel;omega);rw [hadd];unfold Hs.take;rw [e];rfl
  right;subst hL;obtain ⟨W1,e1,l1,g1⟩:=T1a (W:=S.words) (z:=S.sizes) (wide:=wz S.sizes t) hhi hwz.2.1 hu hfit P 16 S.fuel 17 h.parts.links h.parts.lay h.parts.ok (by omega) (by omega) hP (by simp only [w2b,A5c] at hLl;unfold Hs.fuel;omega);have hk:S.take (wz S.sizes t)=some (u.a,W1):=e1;obtain ⟨lP,l3,lQ⟩:=h.parts.lay.parts;have hum:=h.parts.lay.mem (t:=u) (by simp);have hll:=a2a lP (l:=16) (by omega);have huk:wz S.sizes t<=u.k:=by unfold Fits at hfit;omega
  obtain ⟨um1,um2,um3⟩:=hum;have hc16:=P0a t fs;generalize hw0:wz S.sizes t=wd at *;generalize hc0:cz t fs=c at *;generalize ha0:u.a=a at *;generalize hlk:B9a 16 P=link at *;obtain ⟨W2,e2,l2,g2⟩:=J8a (W:=W1) (i:=a) t (by omega);obtain ⟨W3,e3,l3',g3⟩:=J8a (W:=W2) (i:=a+3) (ow W1 c) (by omega);obtain ⟨W4,e4,l4,g4⟩:=i0b (W:=W3) (i:=a+4) (l:=fs) (by omega);obtain ⟨W5,e5,l5,g5⟩:=J8a (W:=W4) (i:=c) (a:Int) (by omega);have hfl:fs.length=wd-4:=hlen
  -- the words behind all this
  have G:∀ j,ow W5 j=if j=c then (a:Int) else if a+4<=j/\j < a+wd then fs.getD (j-(a+4)) 0 else if j=a+3 then ow S.words c else if j=a then t else Y0a (ow S.words) link u wd j:=fun j=>by
   rw [g5,g4,g3,g2];have ec:ow W1 c=ow S.words c:=by
    rw [g1];exact S9a hfit (by omega) (by omega)
   rw [ec,<- g1];simp only [show a+4+fs.length=a+wd by omega]
  have hkids:Hs.kids { S with words:=W5,taken:=Hs.insert a S.taken } a=some (ksOf t fs):=by
   have et:ow W5 a=t:=by
    rw [G,H4c (by omega),H4c (by omega),H4c (by omega),H5c rfl]
   have:=h2a (S:={ S with words:=W5,taken:=Hs.insert a S.taken }) (a:=a) h.fr.toFr (by show okTag S.sizes (ow W5 a)=true;rw [et];exact hn.tag) (by show a+wz S.sizes (ow W5 a)<=W5.length;rw [et,hw0];omega);rw [this];unfold kz ksOf;show some (if B1a (ow W5 a)=true then [] else fz (ow W5) S.sizes a)=_;rw [et]
   congr 1
   split
   . rfl
   unfold fz;rw [et,hw0,<- hfl];exact r3a fun k hk=>by
    rw [G,H4c (by omega),H5c (by omega)]
    congr 1
    omega
  have hks:∀ x ∈ ksOf t fs,∃ b ∈ S.taken,x=(b:Int)/\rank S.order t < rank S.order (ow S.words b):=by
   intro x hx;unfold ksOf at hx
   cases he:B1a t with
   | true=>rw [he] at hx;simp at hx
   | false=>
    rw [he] at hx;exact hn.kids he x (by simpa using hx)
  have hksl:(ksOf t fs).length<=wd-4:=by
   unfold ksOf
   split
   . simp
   omega
  have huL:u ∈ P ++ u :: Q:=by simp
  have uap:∀ b ∈ S.taken,b+wz S.sizes (ow S.words b)<=a \/ a+u.k<=b:=fun b hb=>by
   have:=h.apart hb huL hu;rw [ha0] at this;exact this
  have linkP:link=16 \/ ∃ v ∈ P,v.fr=true/\link=v.a+2:=by
   rw [<- hlk];exact i8a
  have linkC:∀ b ∈ S.taken,∀ i,i < wz S.sizes (ow S.words b)->b+i ≠ link:=fun b hb i hi=>by
   have:=h.part hb
   rcases linkP with e | ⟨v,hv,hvf,e⟩
   . omega
   have:=h.apart hb (t:=v) (by simp [hv]) hvf;have:=h.parts.lay.mem (t:=v) (by simp [hv]);omega
  have G0:∀ b ∈ S.taken,∀ i,i < wz S.sizes (ow S.words b)->ow W5 (b+i)=ow S.words (b+i):=fun b hb i hi=>by
   have h1:=h.part hb;have h2:=uap b hb;have h3:=linkC b hb i hi;rw [G,H4c (by omega),H4c (by omega),H4c (by omega),H4c (by omega)];exact S9a hfit (by omega) h3
  have cutk:cut (ow W5) (a+4) (ksOf t fs).length=ksOf t fs:=by
   unfold ksOf
   split
   . rfl
   exact r3a fun k hk=>by
    rw [G,H4c (by omega),H5c (by omega)]
    congr 1
    omega
  have hks12:((ksOf t fs).length:Int)<=100:=by omega
  have hks0:(0:Int)<=((ksOf t fs).length:Int):=by omega
  obtain ⟨W6,e6,l6,g6⟩:=F2b 1 (by omega) (ksOf t fs).length (a+4) W5 (by omega) (fun i hi=>by
   have hm:ow W5 (a+4+i) ∈ ksOf t fs:=by
    rw [<- cutk];exact a9a.2 ⟨i,hi,rfl⟩
   obtain ⟨b,hb,e,_⟩:=hks _ hm;have h1:=h.part hb;have h2:=uap b hb;have h3:=h.h7a hb;have h4:=G0 b hb 1 (by omega);rw [<- h4] at h3;have h5:=use_bd h3.1 h3.2 hks0 hks12;have h6:b+1 < W5.length:=by clear h3 h4 h5;omega
   have h7:b+1 < a+4 \/ a+4+(ksOf t fs).length<=b+1:=by clear h3 h4 h5;omega
   exact ⟨b,e,h6,h7,h5⟩)
  rw [cutk] at g6;have g6':∀ x,(∀ b ∈ S.taken,x ≠ b+1)->ow W6 x=ow W5 x:=fun x hx=>by
   rw [g6,w5b.2]
   . simp
   intro hm;obtain ⟨b,hb,e,_⟩:=hks _ hm;exact hx b hb (by omega)
  have F1:∀ b ∈ S.taken,∀ i,i < wz S.sizes (ow S.words b)->i ≠ 1->ow W6 (b+i)=ow S.words (b+i):=fun b hb i hi h1=>by
   rw [g6' _ fun b' hb'=>h.ne hb hb' hi (by have:=h.part hb';omega) (.inr h1)];exact G0 b hb i hi
  have F2:∀ b ∈ S.taken,ow W6 (b+1)=ow S.words (b+1)+((ksOf t fs).count (b:Int):Nat):=fun b hb=>by
   rw [g6,G0 b hb 1 (by have:=h.part hb;omega)]
   push_cast
   rw [show (b:Int)+1-1=b by omega];omega
  have F3:∀ j,a<=j->j < a+u.k->ow W6 j=ow W5 j:=fun j h1 h2=>g6' _ fun b hb=>by
   have:=uap b hb;have:=h.part hb;omega
  have F4:∀ j,j < 18->ow W6 j=ow W5 j:=fun j h1=>g6' _ fun b hb=>by
   have:=h.part hb;omega
  have F5:∀ v ∈ P ++ u :: Q,v.fr=true -> ∀ j,v.a<=j->j < v.a+v.k->ow W6 j=ow W5 j:=fun v hv hf j h1 h2=>g6' _ fun b hb=>by
   have:=h.apart hb hv hf;have:=h.part hb;omega
  have hold:Same (ow S.words) (ow W6) S.sizes S.taken:=fun b hb=>by
   have:=h.part hb;refine ⟨by simpa using F1 b hb 0 (by omega) (by omega),fun i hi=>?_⟩;have:=F1 b hb (4+i) (by omega) (by omega);rw [<- F0c] at this;exact this
  have hnew:a ∉ S.taken:=fun ha=>by
   have:=uap a ha;have:=h.part ha;omega
  have nt:ow W6 a=t:=by
   rw [F3 a (by omega) (by omega),G,H4c (by omega),H4c (by omega),H4c (by omega),H5c rfl]
  have nf:fz (ow W6) S.sizes a=fs:=by
   unfold fz;rw [nt,hw0,<- hfl];exact r3a fun k hk=>by
    rw [F3 _ (by omega) (by omega),G,H4c (by omega),H5c (by omega)]
    congr 1
    omega
  have nk:kz (ow W6) S.sizes a=ksOf t fs:=by
   unfold kz ksOf;rw [nt,nf]
  have n1:ow W6 (a+1)=0:=by
   rw [F3 _ (by omega) (by omega),G,H4c (by omega),H4c (by omega),H4c (by omega),H4c (by omega)];unfold Y0a;rw [ha0,H5c (by omega)]
  have n2:ow W6 (a+2)=0:=by
   rw [F3 _ (by omega) (by omega),G,H4c (by omega),H4c (by omega),H4c (by omega),H4c (by omega)];unfold Y0a;rw [ha0,H5c (by omega)]
  have n3:ow W6 (a+3)=ow S.words c:=by
   rw [F3 _ (by omega) (by omega),G,H4c (by omega),H4c (by omega),H5c rfl]
  have hc:ow W6 c=(a:Int):=by rw [F4 _ (by omega),G,H5c rfl]
  have TK:∀ j,(j < a \/ a+wd<=j)->j ≠ c->ow W5 j=Y0a (ow S.words) link u wd j:=fun j h1 h2=>by
   rw [G,H4c h2,H4c (by omega),H4c (by omega),H4c (by omega)]
  have hh:∀ c',c' < 16->c' ≠ c->ow W6 c'=ow S.words c':=fun c' h1 h2=>by
   rw [F4 _ (by omega),TK _ (by omega) h2];exact S9a hfit (by omega) (by omega)
  -- free parts but this one
  have FV:∀ v ∈ P ++ u :: Q,v.fr=true->v ≠ u -> ∀ j,v.a<=j->j < v.a+v.k->j ≠ link->ow W6 j=ow S.words j:=fun v hv hf hne j h1 h2 h3=>by
   have hm:=h.parts.lay.mem hv;have hs:=h.parts.lay.sep hv huL;rw [ha0] at hs;have hs:v.a+v.k<=a \/ a+u.k<=v.a:=by
    rcases hs with e | e
    . exact absurd e hne
    exact e
   rw [F5 v hv hf j h1 h2,TK _ (by omega) (by omega)];exact S9a hfit (by omega) h3
  have PNE:∀ v ∈ P,v ≠ u/\v.a+v.k<=a:=fun v hv=>by
   have:=lP.mem hv;refine ⟨fun e=>?_,this.2.1⟩;rw [e,ha0] at this;omega
  have QNE:∀ v ∈ Q,v ≠ u/\a+u.k<=v.a:=fun v hv=>by
   have:=lQ.mem hv;refine ⟨fun e=>?_,this.1⟩;rw [e,ha0] at this;omega
  obtain ⟨k1,k2⟩:=B6a.app.1 h.parts.links;rw [hlk] at k2;simp only [B6a,hu,H2c,ha0] at k2;have hlink:ow W6 link=if u.k=wd then ow S.words (a+2) else ((a+wd:Nat):Int):=by
   have e:ow W6 link=ow W5 link:=by
    rcases linkP with e | ⟨v,hv,hvf,e⟩
    . exact F4 _ (by omega)
    have:=h.parts.lay.mem (t:=v) (by simp [hv]);exact F5 v (by simp [hv]) hvf _ (by omega) (by omega)
   rw [e,TK _ (by omega) (by omega)];unfold Y0a;rw [ha0,H4c (by omega)]
   split
   . rw [H5c rfl]
   rw [H5c rfl]
  obtain ⟨s1,s2,s3⟩:=Sep.app.1 h.parts.sep;obtain ⟨s4,s5⟩:=Sep.cons.1 s2;generalize hR:(if u.k=wd then ([]:List Tl) else [⟨a+wd,u.k-wd,true⟩])=R;have hRo:R=[]/\u.k=wd \/ R=[⟨a+wd,u.k-wd,true⟩]/\wd+3<=u.k:=by
   rw [<- hR]
   split
   . rename_i e;exact .inl ⟨rfl,e⟩
   exact .inr ⟨rfl,by unfold Fits at hfit;omega⟩
  have hlay:Lay 17 (P ++ ⟨a,wd,false⟩ :: (R ++ Q)) S.words.length:=by
   refine Lay.app.2 ⟨a,lP,rfl,by show 3<=wd;omega, ?_⟩;show Lay (a+wd) (R ++ Q) _
   rcases hRo with ⟨e,e'⟩ | ⟨e,e'⟩
   . rw [e,<- e'];exact lQ
   rw [e];refine ⟨rfl,by show 3<=u.k-wd;omega, ?_⟩;show Lay (a+wd+(u.k-wd)) Q _;rw [show a+wd+(u.k-wd)=a+u.k by omega];exact lQ
  have hads:A6a (P ++ ⟨a,wd,false⟩ :: (R ++ Q))=A6a P ++ a :: A6a Q:=by
   have e1:A6a R=[]:=by rcases hRo with ⟨e,_⟩ | ⟨e,_⟩ <;> rw [e] <;> rfl
   rw [D2a];show A6a P ++ (A6a ([⟨a,wd,false⟩] ++ (R ++ Q)))=_;rw [D2a,D2a,e1];rfl
  have htk0:S.taken=A6a P ++ A6a Q:=by
   rw [h.taken,D2a];show A6a P ++ A6a ([u] ++ Q)=_;rw [D2a];simp [A6a,hu]
  have htk:Hs.insert a S.taken=A6a (P ++ ⟨a,wd,false⟩ :: (R ++ Q)):=by
   refine S1b (A0b h.up) (f2a hlay) fun x=>?_
   rw [mem_insert,hads,htk0];simp only [C4c,E6c];constructor
   . rintro (h | h | h)
     . exact .inr (.inl h)
     . exact .inl h
     exact .inr (.inr h)
   rintro (h | h | h)
   . exact .inr (.inl h)
   . exact .inl h
   exact .inr (.inr h)
  have ml:∀ b,b ∈ Hs.insert a S.taken ↔ b=a \/ b ∈ S.taken:=fun b=>mem_insert
  have PUT:Put S { S with words:=W6,taken:=Hs.insert a S.taken } t fs a:=⟨rfl,rfl,by show W6.length=_;omega,rfl,hnew,nt,nf,n1,n2,hold,fun b hb=>F1 b hb 2 (by have:=h.part hb;omega) (by omega)⟩
  refine ⟨P,u,Q,{ S with words:=W6,taken:=Hs.insert a S.taken },rfl,hP,hu,hfit, ?_,by rw [ha0];exact PUT, ?_⟩
  . rw [hadd,hk,ha0];simp only [v9b,B5c];rw [H4c (by omega:¬ a=0),F7a (by omega:c < W1.length)];simp only [B5c,e2,e3,e4,e5,hkids,e6]
  rw [ha0,hR];have hl6:W6.length=S.words.length:=by omega
  exact
  { fr:=h.fr
    lo:=by show 20<=W6.length;omega
    hi:=by show W6.length<=100000;omega
    bd:=h.bd
    parts:=by
     show Parts (ow W6) S.sizes _ W6.length;rw [hl6];refine ⟨hlay,B6a.app.2 ⟨?_, ?_⟩,Sep.app.2 ⟨s1,Sep.cons.2 ⟨by simp, ?_⟩,by simp [hdF]⟩,fun v hv=>?_⟩
     . refine k1.turn _ lP (by omega) ?_ (fun hne=>?_) fun v hv hf hne=>?_
       . rw [hlk,hlink];show _=a4a (R ++ Q) 0
         rcases hRo with ⟨e,e'⟩ | ⟨e,e'⟩
         . rw [H5c e',e];exact k2.2.head
         rw [H4c (by omega),e];rfl
       . rw [hlk] at hne;rw [F4 _ (by omega),TK _ (by omega) (by omega)];exact S9a hfit (by omega) hne
       rw [hlk] at hne;have:=lP.mem hv;exact FV v (by simp [hv]) hf (PNE v hv).1 _ (by omega) (by omega) hne
     . rw [hlk];show B6a (ow W6) link (R ++ Q) 0;have hq:∀ v ∈ Q,v.fr=true->ow W6 (v.a+2)=ow S.words (v.a+2):=fun v hv hf=>by
        have:=lQ.mem hv;exact FV v (by simp [hv]) hf (QNE v hv).1 _ (by omega) (by omega) (by omega)
       rcases hRo with ⟨e,e'⟩ | ⟨e,e'⟩
       . rw [e];rw [H5c e'] at hlink;exact k2.2.move hlink hq
       rw [e];rw [H4c (by omega)] at hlink;refine ⟨hlink,k2.2.move ?_ hq⟩;show ow W6 (a+wd+2)=ow S.words (a+2);rw [F3 _ (by omega) (by omega),TK _ (by omega) (by omega)];unfold Y0a;rw [ha0,H4c (by omega),H4c (by omega),H4c (by omega),H5c rfl]
     . rcases hRo with ⟨e,e'⟩ | ⟨e,e'⟩
       . rw [e];exact s5
       rw [e];refine Sep.cons.2 ⟨fun hx=>s4 ⟨hu,hx.2⟩,s5⟩
     have hcase:v ∈ P \/ v=⟨a,wd,false⟩ \/ v ∈ R \/ v ∈ Q:=by simpa using hv
     have hold':∀ v ∈ P ++ u :: Q,v ≠ u->G3a (ow W6) S.sizes v:=fun v hv hne=>by
      refine (h.parts.ok v hv).congr ?_ fun hf=>?_
      . cases hf:v.fr with
        | false=>
         have hb:v.a ∈ S.taken:=by rw [h.taken];exact B4a.2 ⟨v,hv,hf,rfl⟩
         exact (hold _ hb).1
        | true=>
         have:=h.parts.lay.mem hv;refine FV v hv hf hne _ (by omega) (by omega) ?_
         rcases linkP with e | ⟨v',hv',hvf',e⟩
         . omega
         have h1:=h.parts.lay.mem (t:=v') (by simp [hv'])
         rcases h.parts.lay.sep hv (u:=v') (by simp [hv']) with e2 | e2
         . rw [e2];omega
         omega
      have hm:=h.parts.lay.mem hv;have nl:∀ j,v.a<=j->j < v.a+v.k->j ≠ v.a+2->j ≠ link:=fun j h1 h2 h3=>by
       rcases linkP with e | ⟨v',hv',hvf',e⟩
       . omega
       have h1:=h.parts.lay.mem (t:=v') (by simp [hv'])
       rcases h.parts.lay.sep hv (u:=v') (by simp [hv']) with e2 | e2
       . rw [e,<- e2];omega
       omega
      refine ⟨FV v hv hf hne _ (by omega) (by omega) (nl _ (by omega) (by omega) (by omega)),fun j h1 h2=>FV v hv hf hne _ (by omega) (by omega) (nl _ (by omega) (by omega) (by omega))⟩
     rcases hcase with hv | rfl | hv | hv
     . exact hold' v (by simp [hv]) (PNE v hv).1
     . unfold G3a;simp only [x6b,H1c];rw [nt];exact ⟨hn.tag,hw0.symm⟩
     . rcases hRo with ⟨e,e'⟩ | ⟨e,e'⟩
       . rw [e] at hv;cases hv
       rw [e] at hv;have:v=⟨a+wd,u.k-wd,true⟩:=by simpa using hv
       subst this;have z0:=(h.parts.ok u huL).free hu;rw [ha0] at z0;unfold G3a;simp only [H2c];have TT:∀ j,a+wd<=j->j < a+u.k->ow W6 j=Y0a (ow S.words) link u wd j:=fun j h1 h2=>by
        rw [F3 _ (by omega) (by omega),TK _ (by omega) (by omega)]
       refine ⟨?_, ?_,fun j h1 h2=>?_⟩
       . rw [TT _ (by omega) (by omega)];unfold Y0a;rw [ha0,H4c (by omega),H4c (by omega),H4c (by omega),H4c (by omega),H4c (by omega),H5c rfl]
       . rw [TT _ (by omega) (by omega)];unfold Y0a;rw [ha0,H4c (by omega),H4c (by omega),H4c (by omega),H4c (by omega),H5c rfl];omega
       rw [TT _ (by omega) (by omega)];unfold Y0a;rw [ha0,H4c (by omega),H4c (by omega),H4c (by omega),H4c (by omega),H4c (by omega),H4c (by omega)];exact z0.2.2 j (by omega) (by omega)
     exact hold' v (by simp [hv]) (QNE v hv).1
    taken:=htk
    chains:=by
     show e5a (ow W6) S.sizes (Hs.insert a S.taken) _;refine ⟨fun c' hc'=>?_,fun c' hc'=>?_,fun c' hc' x=>?_⟩
     . have h3:∀ b ∈ ch c',ow W6 (b+3)=ow S.words (b+3):=fun b hb=>by
         have hb:=((h.chains.mem c' hc' b).1 hb).1;exact F1 b hb 3 (by have:=h.part hb;omega) (by omega)
       by_cases e:c'=c
       . subst e;simp only [H2c];exact ⟨hc,by omega,(h.chains.path _ hc').move n3 h3⟩
       simp only [H4c e];exact (h.chains.path _ hc').congr (hh _ hc' e) h3
     . by_cases e:c'=c
       . subst e;simp only [H2c];exact C2c.2 ⟨fun hm=>hnew ((h.chains.mem _ hc' a).1 hm).1,h.chains.nodup _ hc'⟩
       simp only [H4c e];exact h.chains.nodup _ hc'
     have hx:∀ b ∈ S.taken,cz (ow W6 b) (fz (ow W6) S.sizes b)=cz (ow S.words b) (fz (ow S.words) S.sizes b):=fun b hb=>by rw [(hold b hb).1,hold.fz_ hb]
     rw [ml]
     by_cases exa:x=a
     . subst exa;rw [nt,nf,hc0]
       by_cases e:c'=c
       . subst e;simp
       simp only [H4c e];constructor
       . intro hm;exact absurd ((h.chains.mem c' hc' x).1 hm).1 hnew
       rintro ⟨_,e'⟩;exact absurd e'.symm e
     have:(x ∈ if c'=c then a :: ch c' else ch c') ↔ x ∈ ch c':=by
      split
      . simp [exa]
      rfl
     rw [this,h.chains.mem c' hc' x];constructor
     . rintro ⟨h1,h2⟩;exact ⟨.inr h1,by rw [hx x h1];exact h2⟩
     rintro ⟨h1 | h1,h2⟩
     . exact absurd h1 exa
     exact ⟨h1,by rw [<- hx x h1];exact h2⟩
    cells:=by
     show Cells (ow W6) S.sizes S.order (Hs.insert a S.taken);have k:=hold.cells h.fr.toFr h.cells;refine ⟨fun b hb=>?_,fun b hb=>?_,fun b hb x hx=>?_,fun b hb=>?_,fun b hb b' hb' h1 h2=>?_⟩
     . rcases (ml b).1 hb with rfl | hb
       . rw [nt];exact hn.tag
       exact k.tags b hb
     . rcases (ml b).1 hb with rfl | hb
       . rw [nt];intro he;have:wd=5:=by rw [<- hw0];simp [wz,he]
         have e4:ow W6 (b+4)=fs.getD 0 0:=by
          rw [F3 _ (by omega) (by omega),G,H4c (by omega),H5c (by omega),G1c]
         have hm:fs.getD 0 0 ∈ fs:=by
          have:0 < fs.length:=by rw [hfl,this];decide
          rw [q1b,r1b this];exact A4c this
         rw [e4];exact hn.ends he _ hm
       exact k.ends b hb
     . rcases (ml b).1 hb with rfl | hb
       . rw [nk] at hx;obtain ⟨b',hb',e,hr⟩:=hks x hx;exact ⟨b',(ml b').2 (.inr hb'),e,by rw [nt,(hold b' hb').1];exact hr⟩
       obtain ⟨b',hb',e,hr⟩:=k.kids b hb x hx;exact ⟨b',(ml b').2 (.inr hb'),e,hr⟩
     . rcases (ml b).1 hb with rfl | hb
       . rw [nt,nf];exact hn.flat
       exact k.flat b hb
     rcases (ml b).1 hb with e1 | hb1 <;> rcases (ml b').1 hb' with e2 | hb2
     . exact e1.trans e2.symm
     . subst e1;rw [nt,(hold b' hb2).1] at h1;rw [nf,hold.fz_ hb2] at h2;exact absurd ⟨h1.symm,h2.symm⟩ (hmiss b' hb2)
     . subst e2;rw [nt,(hold b hb1).1] at h1;rw [nf,hold.fz_ hb1] at h2;exact absurd ⟨h1,h2⟩ (hmiss b hb1)
     exact k.one b hb1 b' hb2 h1 h2
    uses:=by
     intro b hb;show ow W6 (b+1)=cnt (ow W6) S.sizes b (Hs.insert a S.taken);rw [g0a (X2a hnew)];unfold cnt;rw [nk,hold.cnt_ b fun x hx=>hx]
     rcases (ml b).1 hb with rfl | hb
     . rw [n1,w5b.2,G1b]
       . rfl
       . intro b' hb' x hx e;obtain ⟨b'',hb'',e',_⟩:=h.cells.kids b' hb' x hx;have:b=b'':=by omega
         subst this;exact hnew hb''
       intro hm;obtain ⟨b'',hb'',e',_⟩:=hks _ hm;have:b=b'':=by omega
       subst this;exact hnew hb''
     rw [F2 b hb,h.uses b hb]
     push_cast
     omega
    holds:=fun b hb=>by
     show 0<=ow W6 (b+2)/\ow W6 (b+2)<=B
     rcases (ml b).1 hb with rfl | hb
     . rw [n2];exact ⟨Int.le_refl _,x5b _⟩
     . rw [F1 b hb 2 (by have:=h.part hb;omega) (by omega)];exact h.holds b hb }
end Hp
namespace Hp
theorem C4b:∀ {l:List Int},(∀ x ∈ l,∃ b:Nat,x=(b:Int)) -> ∃ r,Hs.adrs l=some r/\r.length=l.length /\ ∀ b,b ∈ r ↔ (b:Int) ∈ l
 | [],_=>⟨[],rfl,rfl,by simp⟩
 | x :: l,h=>by
  obtain ⟨b,rfl⟩:=h x (by simp);obtain ⟨r,h1,h2,h3⟩:=C4b (l:=l) fun y hy=>h y (by simp [hy])
  refine ⟨b :: r, ?_,by simp [h2],fun c=>?_⟩
  . unfold Hs.adrs at h1 ⊢;rw [List.mapM_cons];have:adr (b:Int)=some b:=by simp [adr]
    rw [this,h1];rfl
  simp only [E6c,h3];constructor
  . rintro (e | e)
    . exact .inl (by omega)
    exact .inr e
  rintro (e | e)
  . exact .inl (by omega)
  exact .inr e
def pot (f:Nat->Int) (z:List Int) (L:List Nat):List Nat->Nat
 | []=>0
 | b :: r=>(if L.contains b then 0 else (kz f z b).length)+pot f z L r
theorem i6b {f:Nat->Int} {z:List Int} (L:List Nat):∀ T:List Nat,pot f z L T<=widths f z T
 | []=>H0c _
 | b :: r=>by
  have:=i6b (f:=f) (z:=z) L r;have:=u7a (f:=f) (z:=z) (a:=b);unfold pot widths
  split <;> omega
theorem T2b {f:Nat->Int} {z:List Int} {L:List Nat} {a:Nat}:∀ {T:List Nat},a ∉ T->pot f z (Hs.insert a L) T=pot f z L T
 | [],_=>rfl
 | b :: r,h=>by
  have h1:b ≠ a:=fun e=>h (by simp [e])
  have e:(Hs.insert a L).contains b=L.contains b:=by
   rw [D5c];simp [mem_insert,h1]
  unfold pot;rw [e,T2b fun hm=>h (by simp [hm])]
theorem R6b {f:Nat->Int} {z:List Int} {L:List Nat} {a:Nat} (hL:a ∉ L):∀ {T:List Nat},T.Pairwise (· < ·)->a ∈ T->pot f z (Hs.insert a L) T+(kz f z a).length=pot f z L T
 | [],_,h=>by cases h
 | b :: r,hp,h=>by
  obtain ⟨h1,h2⟩:=w3b.1 hp
  by_cases e:b=a
  . subst e;have hr:b ∉ r:=fun hm=>by have:=h1 b hm;omega
    have e1:(Hs.insert b L).contains b=true:=by simp [mem_insert]
    have e2:L.contains b=false:=by simpa using hL
    unfold pot;rw [e1,e2,T2b hr];simp;omega
  have hr:a ∈ r:=by
   rcases E6c.1 h with h' | h'
   . exact absurd h'.symm e
   exact h'
  have e1:(Hs.insert a L).contains b=L.contains b:=by
   rw [D5c];simp [mem_insert,e]
  have:=R6b (f:=f) (z:=z) hL h2 hr;unfold pot;rw [e1];omega
theorem Wf.adrs_ {L:List Tl} {ch:Nat->List Nat} (h:Wf S B L ch) (ha:a ∈ S.taken):∃ r,Hs.adrs (kz (ow S.words) S.sizes a)=some r/\r.length=(kz (ow S.words) S.sizes a).length /\ ∀ b ∈ r,b ∈ S.taken:=by
 obtain ⟨r,h1,h2,h3⟩:=C4b (l:=kz (ow S.words) S.sizes a) fun x hx=>by
  obtain ⟨b,_,e,_⟩:=h.cells.kids a ha x hx;exact ⟨b,e⟩
 refine ⟨r,h1,h2,fun b hb=>?_⟩
 obtain ⟨b',hb',e,_⟩:=h.cells.kids a ha _ ((h3 b).1 hb)
 have:b=b':=by omega
 rw [this]
 exact hb'
theorem b6a {S:Hs} {B:Nat} {Lt:List Tl} {ch:Nat->List Nat} (h:Wf S B Lt ch):∀ (n:Nat) (L st:List Nat),(∀ a ∈ st,a ∈ S.taken)->st.length+pot (ow S.words) S.sizes L S.taken<=n -> ∃ r,S.L8a n L st=some r
 | n,L,[],_,_=>⟨L,by cases n <;> rfl⟩
 | 0,L,a :: st,_,hn=>by simp at hn
 | n+1,L,a :: st,hs,hn=>by
  simp only [A5c] at hn;unfold Hs.L8a
  by_cases hc:L.contains a=true
  . rw [H5c hc];exact b6a h n L st (fun b hb=>hs b (by simp [hb])) (by omega)
  rw [H4c hc];have ha:=hs a (by simp);obtain ⟨r,h1,h2,h3⟩:=h.adrs_ ha;rw [h.U1b ha];simp only [v9b,B5c,h1];have:=R6b (f:=ow S.words) (z:=S.sizes) (L:=L) (a:=a) (by simpa using hc) h.up ha;exact b6a h n _ _ (fun b hb=>by
   rcases C4c.1 hb with hb | hb
   . exact h3 b hb
   . exact hs b (by simp [hb])) (by rw [w2b];omega)
theorem n3a {S:Hs}:∀ {T:List Nat},(∀ a ∈ T,a+2 < S.words.length) -> ∃ r,S.held T=some r/\r.length<=T.length /\ ∀ a ∈ r,a ∈ T
 | [],_=>⟨[],rfl,H0c _,by simp⟩
 | a :: r,h=>by
  obtain ⟨q,h1,h2,h3⟩:=n3a (S:=S) (T:=r) fun b hb=>h b (by simp [hb])
  unfold Hs.held;rw [h1,F7a (h a (by simp))];simp only [v9b,B5c]
  split
  . refine ⟨a :: q,rfl,by simp;omega,fun b hb=>?_⟩
    rcases E6c.1 hb with rfl | hb
    . simp
    simp [h3 b hb]
  exact ⟨q,rfl,by simp;omega,fun b hb=>by simp [h3 b hb]⟩
theorem M5a {L:List Tl} {ch:Nat->List Nat} (h:Wf S B L ch):∃ T,S.live=some T:=by
 obtain ⟨R,h1,h2,h3⟩:=n3a (S:=S) (T:=S.taken) fun a ha=>by have:=h.part ha;omega
 unfold Hs.live
 rw [h1]
 simp only [v9b,B5c]
 have:=i6b (f:=ow S.words) (z:=S.sizes) [] S.taken
 have:=h.Q4a
 have:=h.few
 exact b6a h _ [] R h3 (by omega)
theorem I1a (live:List Nat):∀ (r:List Nat) (m l:Nat) (W:List Int),Path (ow W) l r->r.Nodup->(∀ a ∈ r,l ≠ a+3/\a+3 < W.length)->l < W.length->r.length < m ->
    ∃ W',Hs.C5a live m W l=some W'/\W'.length=W.length/\Path (ow W') l (r.filter fun a=>live.contains a) /\ ∀ j,j ≠ l->(∀ a ∈ r,j ≠ a+3)->ow W' j=ow W j
  | [],m,l,W,hp,_,_,hl,hm=>by
   cases m with
   | zero=>simp at hm
   | succ m=>
    have e:ow W l=0:=hp;refine ⟨W, ?_,rfl,hp,fun _ _ _=>rfl⟩;unfold Hs.C5a;rw [Y5a (a:=0) hl (by simpa using e)];rfl
  | a :: r,m,l,W,hp,hd,hr,hl,hm=>by
   cases m with
   | zero=>simp at hm
   | succ m=>
    obtain ⟨e,h0,hp⟩:=hp;obtain ⟨d1,d2⟩:=C2c.1 hd;have hra:=hr a (by simp);simp only [A5c] at hm;unfold Hs.C5a;rw [Y5a hl e];simp only [v9b,B5c];rw [H4c h0]
    by_cases hv:live.contains a=true
    . rw [H5c hv];have hne:∀ b ∈ r,a+3 ≠ b+3:=fun b hb e'=>d1 (by rw [show a=b by omega];exact hb)
      obtain ⟨W',w1,w2,w3,w4⟩:=I1a live r m (a+3) W hp d2 (fun b hb=>⟨hne b hb,(hr b (by simp [hb])).2⟩) hra.2 (by omega);refine ⟨W',w1,w2, ?_,fun j h1 h2=>w4 j (h2 a (by simp)) fun b hb=>h2 b (by simp [hb])⟩;rw [r7b hv];refine ⟨?_,h0,w3⟩;rw [w4 l hra.1 fun b hb=>(hr b (by simp [hb])).1];exact e
    rw [H4c hv,F7a hra.2];simp only [B5c];obtain ⟨W1,e1,l1,g1⟩:=J8a (W:=W) (i:=l) (ow W (a+3)) hl;rw [e1];simp only [B5c];obtain ⟨W',w1,w2,w3,w4⟩:=I1a live r m l W1 (hp.move (by rw [g1,H5c rfl]) fun b hb=>by rw [g1,H4c (hr b (by simp [hb])).1.symm]) d2 (fun b hb=>by rw [l1];exact hr b (by simp [hb])) (by omega) (by omega);refine ⟨W',w1,w2.trans l1, ?_,fun j h1 h2=>?_⟩
    . rw [r8b hv];exact w3
    rw [w4 j h1 fun b hb=>h2 b (by simp [hb]),g1,H4c h1]
theorem S7a (live:List Nat) (m:Nat) (ch:Nat->List Nat) (hdis:∀ c c' a,a ∈ ch c->a ∈ ch c'->c=c') (hnd:∀ c,c < 16->(ch c).Nodup):∀ (l:List Nat) (W:List Int),l.Nodup->16<=W.length->(∀ c ∈ l,c < 16/\Path (ow W) c (ch c)/\(ch c).length < m /\ ∀ a ∈ ch c,17<=a/\a+3 < W.length) ->
    ∃ W',Hs.J9a live m W l=some W'/\W'.length=W.length/\(∀ c ∈ l,Path (ow W') c ((ch c).filter fun a=>live.contains a)) /\ ∀ j,(∀ c ∈ l,j ≠ c /\ ∀ a ∈ ch c,j ≠ a+3)->ow W' j=ow W j
  | [],W,_,_,_=>⟨W,rfl,rfl,by simp,fun _ _=>rfl⟩
  | c :: l,W,hl,h16,h=>by
   obtain ⟨d1,d2⟩:=C2c.1 hl;obtain ⟨hc,hp,hm,hr⟩:=h c (by simp);obtain ⟨W1,w1,w2,w3,w4⟩:=I1a live (ch c) m c W hp (hnd c hc) (fun a ha=>⟨by have:=hr a ha;omega,(hr a ha).2⟩) (by omega) hm;have k1:∀ c' ∈ l,ow W1 c'=ow W c':=fun c' hc'=>w4 c' (fun e=>d1 (e ▸ hc')) fun a ha=>by have:=hr a ha;have:=(h c' (by simp [hc'])).1;omega
   have k2:∀ c' ∈ l,∀ a ∈ ch c',ow W1 (a+3)=ow W (a+3):=fun c' hc' a ha=>w4 (a+3) (by have:=(h c' (by simp [hc'])).2.2.2 a ha;omega) fun b hb e=>by
    have:a=b:=by omega
    subst this;exact d1 (hdis c c' a hb ha ▸ hc')
   obtain ⟨W',v1,v2,v3,v4⟩:=S7a live m ch hdis hnd l W1 d2 (by omega) fun c' hc'=>by
    obtain ⟨q1,q2,q3,q4⟩:=h c' (by simp [hc']);exact ⟨q1,q2.congr (k1 c' hc') (k2 c' hc'),q3,by rw [w2];exact q4⟩
   refine ⟨W', ?_,v2.trans w2,fun c' hc'=>?_,fun j hj=>?_⟩
   . unfold Hs.J9a;rw [w1];exact v1
   . rcases E6c.1 hc' with rfl | hc'
     . refine w3.congr (v4 c' fun c2 hc2=>⟨fun e=>d1 (e ▸ hc2),fun a ha=>by have:=(h c2 (by simp [hc2])).2.2.2 a ha;omega⟩) fun a ha=>v4 (a+3) fun c2 hc2=>⟨?_,fun b hb e=>?_⟩
       . have:=hr a ((C0c.1 ha).1);have:=(h c2 (by simp [hc2])).1;omega
       have:a=b:=by omega
       subst this;exact d1 (hdis c' c2 a ((C0c.1 ha).1) hb ▸ hc2)
     exact v3 c' hc'
   rw [v4 j fun c' hc'=>hj c' (by simp [hc']),w4 j (hj c (by simp)).1 (hj c (by simp)).2]
theorem b1a {S:Hs} {B:Nat} {L:List Tl} {ch:Nat->List Nat} (h:Wf S B L ch):∀ (D:List Nat) (W:List Int),(∀ a ∈ D,a ∈ S.taken)->W.length=S.words.length->Same (ow S.words) (ow W) S.sizes S.taken ->
    (∀ b ∈ S.taken,-1000000+(widths (ow S.words) S.sizes D:Int)<=ow W (b+1)/\ow W (b+1)<=1000000) ->
    ∃ W',Hs.j4a { S with words:=W } D=some { S with words:=W' } /\ W'.length=S.words.length/\(∀ j,(∀ b ∈ S.taken,j ≠ b+1)->ow W' j=ow W j) /\ ∀ b ∈ S.taken,ow W' (b+1)=ow W (b+1)-cnt (ow S.words) S.sizes b D
  | [],W,_,hl,_,_=>⟨W,rfl,hl,fun _ _=>rfl,fun b _=>by simp [cnt]⟩
  | a :: D,W,hD,hl,hs,hb=>by
   have ha:=hD a (by simp);have pa:=h.part ha;have ek:kz (ow W) S.sizes a=kz (ow S.words) S.sizes a:=hs.kz_ ha;have hk:Hs.kids { S with words:=W } a=some (kz (ow S.words) S.sizes a):=by
    rw [<- ek];exact h2a (S:={ S with words:=W }) h.fr.toFr (by show okTag S.sizes (ow W a)=true;rw [(hs a ha).1];exact h.cells.tags a ha) (by show a+wz S.sizes (ow W a)<=W.length;rw [(hs a ha).1];omega)
   have kl:=u7a (f:=ow S.words) (z:=S.sizes) (a:=a);have cutk:cut (ow W) (a+4) (kz (ow S.words) S.sizes a).length=kz (ow S.words) S.sizes a:=by
    rw [<- ek];unfold kz
    split
    . rfl
    unfold fz;rw [E2a]
   have hwk:=widths (ow S.words) S.sizes D;obtain ⟨W1,e1,l1,g1⟩:=F2b (-1) (by omega) (kz (ow S.words) S.sizes a).length (a+4) W (by omega) (fun i hi=>by
    have hm:ow W (a+4+i) ∈ kz (ow S.words) S.sizes a:=by
     rw [<- cutk];exact a9a.2 ⟨i,hi,rfl⟩
    obtain ⟨b,hb',e,_⟩:=h.cells.kids a ha _ hm;have h1:=h.part hb';have h2:=hb b hb';have h3:b+1 < a+4 \/ a+4+(kz (ow S.words) S.sizes a).length<=b+1:=by
     rcases h.sep hb' ha with e | e | e
     . subst e;left;omega
     . left;omega
     right;omega
    exact ⟨b,e,by omega,h3,by omega,by omega⟩)
   rw [cutk] at g1;have hx:∀ x ∈ kz (ow S.words) S.sizes a,∃ b ∈ S.taken,x=(b:Int):=fun x hx=>by
    obtain ⟨b,hb',e,_⟩:=h.cells.kids a ha x hx;exact ⟨b,hb',e⟩
   have f1:∀ j,(∀ b ∈ S.taken,j ≠ b+1)->ow W1 j=ow W j:=fun j hj=>by
    rw [g1,w5b.2]
    . simp
    intro hm;obtain ⟨b,hb',e⟩:=hx _ hm;exact hj b hb' (by omega)
   have f2:∀ b ∈ S.taken,ow W1 (b+1)=ow W (b+1)-((kz (ow S.words) S.sizes a).count (b:Int):Nat):=fun b _=>by
    rw [g1]
    push_cast
    rw [show (b:Int)+1-1=b by omega];omega
   have hs1:Same (ow S.words) (ow W1) S.sizes S.taken:=fun b hb'=>by
    have pb:=h.part hb';refine ⟨?_,fun i hi=>?_⟩
    . rw [f1 b fun c hc=>?_,(hs b hb').1];have:=h.ne hb' hc (i:=0) (j:=1) (by omega) (by have:=h.part hc;omega) (.inr (by omega))
      simpa using this
    rw [f1 _ fun c hc=>?_,(hs b hb').2 i hi];have:=h.ne hb' hc (i:=4+i) (j:=1) (by omega) (by have:=h.part hc;omega) (.inr (by omega));omega
   obtain ⟨W',v1,v2,v3,v4⟩:=b1a h D W1 (fun b hb'=>hD b (by simp [hb'])) (l1.trans hl) hs1 (fun b hb'=>by
    have h1:=hb b hb';have h2:=u0b (a:=(b:Int)) (l:=kz (ow S.words) S.sizes a);rw [f2 b hb'];have h3:widths (ow S.words) S.sizes (a :: D)=wz S.sizes (ow S.words a)+widths (ow S.words) S.sizes D:=rfl;rw [h3] at h1;omega)
   refine ⟨W', ?_,v2,fun j hj=>(v3 j hj).trans (f1 j hj),fun b hb'=>?_⟩
   . unfold Hs.j4a;rw [hk];simp only [v9b,B5c,e1];exact v1
   rw [v4 b hb',f2 b hb',show cnt (ow S.words) S.sizes b (a :: D)=(kz (ow S.words) S.sizes a).count (b:Int)+cnt (ow S.words) S.sizes b D from rfl]
   push_cast
   omega
end Hp
end Go.Proofs.YtdokmmhjmclmnaaGreat
