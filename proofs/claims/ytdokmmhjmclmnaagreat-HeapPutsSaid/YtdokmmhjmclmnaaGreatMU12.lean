/- Part 12 of a proof. -/
import Derived.Test.YtdokmmhjmclmnaaGreatMU11
set_option linter.unusedSimpArgs false
set_option linter.unusedVariables false
set_option linter.unusedSectionVars false
set_option linter.unnecessarySimpa false
set_option maxHeartbeats 8000000
set_option maxRecDepth 100000
namespace Go.Proofs.YtdokmmhjmclmnaaGreat
open Go.Proofs.Tryz
variable {W' w w' w0 wb:World} {B a b bx c ca cap ce cn f g i j k lb m n qc:Nat} {choice e t x:Int} {A W fs ks l o z:List Int} {D T Y:List Nat} {p p2 pa pe pn q:Option Addr} {d:Hd} {S S':Hp.Hs} {L:List Hp.Tl} {M:List (Nat × Int)} {s:Hp.Sc}
open Go.RowKit Go.Maps
theorem U6b {d:Nat} {m:List Int} (h:SliceAt w p c l) (k:SliceAt w q d m) :
    Calls prog 24 #[.slice p l.length c,.slice q m.length d] w (Rt w (.bool (decide (l=m)))):=by
  by_cases hne:l.length=m.length
  case neg=>
   have e:decide (l=m)=false:=by
    apply D7c;intro e;exact hne (by rw [e])
   rw [e];have hle:=h.le;have hcap:=h.cap;have hle':=k.le;have hcap':=k.cap;clear h k e;generalize l.length=a at *;generalize m.length=b at *;have e1:((a:Int) == (b:Int))=false:=by simpa using (by omega:¬ (a:Int)=b)
   go_enter func24,ntmps24;go_wp2;go_returns;exact ⟨rfl,exx⟩
  case pos=>
   have hle:=h.le;have hcap:=h.cap;have hcap':=k.cap;have H:=hZ h;have K:=hZ k;clear h k;rw [<- hne];have HM:=hZ hne;clear hne;generalize hL:l.length=n at hle ⊢;have HL:=hZ hL;clear hL;have mixed:prog.follows .mixedOrders=true:=by kernel_rfl
   go_enter func24,ntmps24;go_wp2
   go_loopg [5] n (fun g i wr=>∃ j:Nat,j<=n/\n-j<=g/\i = .int .i64 j/\Aside (Ext w wr)/\Aside (∀ i,i < j->Hp.rd l i=Hp.rd m i))
   case atStart=>exact ⟨0,G9c _,by omega,rfl,Ext.refl w,fun m hm=>absurd hm (D0c _)⟩
   case round=>
    obtain ⟨j,hj,hg,rfl,HE,HA⟩:=hrel
    by_cases hlt:j < n
    . obtain ⟨f,hf⟩:=A4a (l:=l) (j:=j) (by rw [HL.out];exact hlt);obtain ⟨f',hf'⟩:=A4a (l:=m) (j:=j) (by rw [<- HM.out,HL.out];exact hlt);obtain ⟨b,o,rfl,hb,hc⟩:=(H.out.ext HE.out).cells (by rw [HL.out];omega);obtain ⟨b',o',rfl,hb',hc'⟩:=(K.out.ext HE.out).cells (by rw [<- HM.out,HL.out];omega);have g1:=hc j f hf;have g2:=hc' j f' hf';have HF:=hZ hf;have HF':=hZ hf';clear hf hc hf' hc'
      by_cases he:f=f'
      . subst he
        go_wp2_with fail
        go_region_o
        go_wp2
        go_roundg (n-(j+1))
        case measure=>omega
        case rel=>
         refine ⟨j+1,by omega,by omega,by go_num,(show Aside _ from HE.out.drew),(show Aside _ from fun i hi=>?_)⟩
         by_cases e:i=j
         . subst e;rw [HF.out,HF'.out]
         exact HA.out i (by omega)
      have e1:(f == f')=false:=by simpa using he
      go_wp2_with fail
      go_region_o
      go_wp2;go_returns;refine ⟨?_,HE.out.drew⟩;have e:decide (l=m)=false:=by
       apply D7c;rintro rfl;have:=HF.out;rw [HF'.out] at this
       cases this
       exact he rfl
      rw [e];rfl
    have:j=n:=by omega
    subst this;go_wp2;go_returns;refine ⟨?_,HE.out⟩;have e:decide (l=m)=true:=E5c (F3b HM.out (by rw [HL.out];exact HA.out));rw [e];rfl
theorem I6a {d:Nat} {m:List Int} {b:Bool} (hb:decide (l=m)=b) (h:SliceAt w p c l) (k:SliceAt w q d m) :
    Calls prog 24 #[.slice p l.length c,.slice q m.length d] w (Rt w (.bool b)):=by
  subst hb;exact U6b h k
def T0a:List Int:=[0,20,2,0,0,5,20,1,0,0,7,2,1,0,0,17,22,1,0,0,0,17,27]
theorem last_any (w:World):Calls prog 58 #[] w fun e w'=>e = .returned (.slice (some ⟨w.heap.size,0,none⟩) 23 23)/\w'=w.alloc (.cells (ints T0a).toArray 3):=by
 go_enter func58,ntmps58
 go_wp2
 go_returns
 exact ⟨rfl,rfl⟩
def dgV (L:DgL) (zs os es ns:Nat) (x:Int):Value:=.agg (L.cells zs os es ns x)
namespace Hp
theorem c6b {fault:Int} (h0:0<=fault) (h4:fault<=4):B1a (20+fault)=true:=by
 simp [B1a,within]
 omega
theorem V8b {fault n:Int} (h0:0<=fault) (h4:fault<=4) (hn:fault > 0->n=0) (h1 : -9999<=n) (h2:n<=9999):New S (20+fault) [n]:=by
 have he:=c6b h0 h4
 refine ⟨by simp [okTag,he],by simp [wz,he],fun _ x hx=>?_,fun h=>?_,fun h=>?_⟩
 . have:x=n:=by simpa using hx
   subst this;exact ⟨h1,h2,fun h=>hn (by omega)⟩
 . rw [he] at h;cases h
 rw [he] at h;cases h
structure Grown (S S':Hs):Prop where
 sizes:S'.sizes=S.sizes
 order:S'.order=S.order
 len:S'.words.length=S.words.length
theorem Grown.refl (S:Hs):Grown S S:=⟨rfl,rfl,rfl⟩
theorem Grown.trans {A B C:Hs} (h:Grown A B) (k:Grown B C):Grown A C:=⟨k.sizes.trans h.sizes,k.order.trans h.order,k.len.trans h.len⟩
def Good (S:Hs) (B:Nat):Prop:=∃ L ch,Wf S B L ch
theorem Wf.more {B':Nat} {ch:Nat->List Nat} (h:Wf S B L ch) (hB:B<=B') (hb:B'<=100000):Wf S B' L ch:=
 { h with bd:=hb,holds:=fun a ha=>by have:=h.holds a ha;omega }
theorem I8b (h:Good S B) (hn:New S t fs):∃ a S',S.add t fs=some (a,S')/\Good S' B/\Grown S S':=by
 obtain ⟨L,ch,h⟩:=h
 rcases add_wf h hn with ⟨a,_,_,_,e⟩ | ⟨_,⟨_,e⟩ | ⟨P,u,Q,S',_,_,_,_,e,hp,hw⟩⟩
 . exact ⟨a,S,e,⟨L,ch,h⟩,.refl _⟩
 . exact ⟨0,S,e,⟨L,ch,h⟩,.refl _⟩
 exact ⟨u.a,S',e,⟨_,_,hw⟩,⟨hp.sizes,hp.order,hp.len⟩⟩
theorem f5a (h:Good S B) {fault n:Int} (h0:0<=fault):∃ r e S',S.end' fault n=some (r,e,S')/\Good S' B/\Grown S S':=by
 unfold Hs.end'
 split
 . exact ⟨0,4,S,rfl,h,.refl _⟩
 rename_i hc
 simp only [not_or,Bool.not_eq_false,within,B8c,A1c] at hc
 obtain ⟨h1,h2,h3⟩:=hc
 obtain ⟨a,S',e,hg,hr⟩:=I8b h (V8b (S:=S) (fault:=fault) (n:=n) h0 (by omega) (fun hf=>by omega) h3.1 h3.2)
 rw [e]
 simp only [v9b,B5c]
 unfold Hs.full
 simp only
 split
 . exact ⟨_,_,S',rfl,hg,hr⟩
 exact ⟨_,_,S',rfl,hg,hr⟩
theorem T7a {S:Hs} {B:Nat} {L:List Tl} {ch:Nat->List Nat} (h:Wf S B L ch) (c:Int):∀ (l:List Int),(∀ x ∈ l,S.has x=true) -> ∃ b,S.d7a c l=some b/\(b=true ↔ ∀ x ∈ l,∃ k ∈ S.taken,x=(k:Int)/\rank S.order (c+1) < rank S.order (ow S.words k))
 | [],_=>⟨true,rfl,by simp⟩
 | x :: l,hl=>by
  obtain ⟨k,rfl,hk⟩:=U1a (hl x (by simp));obtain ⟨b,h1,h2⟩:=T7a h c l fun y hy=>hl y (by simp [hy])
  have ht:=h.W0a hk;unfold Hs.d7a;rw [show adr (k:Int)=some k by simp [adr]];simp only [v9b,B5c,h.tag_ hk];rw [C2b (by omega) (by omega)];simp only [B5c]
  by_cases hr:rank S.order (ow S.words k) > rank S.order (c+1)
  . rw [H5c hr,h1];refine ⟨b,rfl,h2.trans ⟨fun hh y hy=>?_,fun hh y hy=>hh y (by simp [hy])⟩⟩
    rcases E6c.1 hy with rfl | hy
    . exact ⟨k,hk,rfl,hr⟩
    exact hh y hy
  rw [H4c hr];refine ⟨false,rfl,⟨(fun h=>by cases h),fun hh=>?_⟩⟩;obtain ⟨k',hk',e,hr'⟩:=hh (k:Int) (by simp);have:k=k':=by omega
  subst this;exact absurd hr' hr
theorem N5a {ch:Nat->List Nat} (h:Wf S B L ch) (c:Int) (l:List Int):∃ e,S.D0a c l=some e/\(e=0->isNode S.sizes (c+1)=true/\l.length=wz S.sizes (c+1)-4 /\ ∀ x ∈ l,∃ k ∈ S.taken,x=(k:Int)/\rank S.order (c+1) < rank S.order (ow S.words k)):=by
 unfold Hs.D0a
 cases hw:within 0 ((S.sizes.length:Int)-1) c with
 | false=>exact ⟨3,by simp,fun h=>by cases h⟩
 | true=>
  simp only [within,B8c,A1c] at hw;have hc:c.toNat < S.sizes.length:=by omega
  simp only [x7b,H1c];rw [F7a hc];simp only [v9b,B5c]
  by_cases h1:(l.length:Int) ≠ ow S.sizes c.toNat
  . exact ⟨4,by rw [H5c h1],fun h=>by cases h⟩
  rw [H4c h1]
  cases hh:l.all S.has with
  | false=>exact ⟨7,by simp,fun h=>by cases h⟩
  | true=>
   simp only [x7b,H1c];rw [A7c] at hh;obtain ⟨b,e1,e2⟩:=T7a h c l hh;rw [e1];simp only [B5c]
   cases b with
   | false=>exact ⟨2,by simp,fun h=>by cases h⟩
   | true=>
    refine ⟨0,by simp,fun _=>⟨?_, ?_,e2.1 rfl⟩⟩
    . simp [isNode,within];omega
    have hne:B1a (c+1)=false:=by
     have:=h.fr.few;simp [B1a,within];omega
    have e3:S.sizes.getD (c+1-1).toNat 0=ow S.sizes c.toNat:=by
     rw [show c+1-1=c by omega];rfl
    unfold wz;rw [hne,e3];simp only [x6b,H1c];omega
theorem q8a {ch:Nat->List Nat} (h:Wf S B L ch) {c:Int} (h1:isNode S.sizes (c+1)=true) (h2:l.length=wz S.sizes (c+1)-4) (h3:∀ x ∈ l,∃ k ∈ S.taken,x=(k:Int)/\rank S.order (c+1) < rank S.order (ow S.words k)) (h4:Hs.alike l=false):New S (c+1) l:=by
 have hne:B1a (c+1)=false:=by
  have:=h.fr.few;simp only [isNode,within,B8c,A1c] at h1;simp [B1a,within];omega
 exact ⟨by simp [okTag,h1],h2,(fun he=>by rw [hne] at he;cases he),fun _=>h3,fun _=>h4⟩
theorem Z7a (h:Good S B) (c:Int) (l:List Int):∃ r e S',S.make c l=some (r,e,S')/\Good S' B/\Grown S S':=by
 obtain ⟨L,ch,hw⟩:=id h
 obtain ⟨e,h1,h2⟩:=N5a hw c l
 unfold Hs.make
 rw [h1]
 simp only [v9b,B5c]
 by_cases he:e ≠ 0
 . rw [H5c he];exact ⟨_,_,S,rfl,h,.refl _⟩
 rw [H4c he]
 obtain ⟨k1,k2,k3⟩:=h2 (by omega)
 have hwz:=S6a hw.fr.toFr (t:=c+1) (by simp [okTag,k1])
 cases ha:Hs.alike l with
 | true=>
  simp only [H2c]
  cases l with
  | nil=>simp at k2;omega
  | cons x l=>exact ⟨x,0,S,rfl,h,.refl _⟩
 | false=>
  simp only [x6b,H1c];obtain ⟨a,S',e,hg,hr⟩:=I8b h (q8a hw k1 k2 k3 ha);rw [e];simp only [B5c];unfold Hs.full;simp only
  split
  . exact ⟨_,_,S',rfl,hg,hr⟩
  exact ⟨_,_,S',rfl,hg,hr⟩
theorem O0b {ch:Nat->List Nat} (h:Wf S B L ch) (hn:New S t fs):∃ a,S.look t fs=some a:=by
 rcases j1a h (b0b h hn) (P0a _ _) with ⟨a,_,_,_,e⟩ | ⟨_,e⟩
 . exact ⟨a,e⟩
 exact ⟨0,e⟩
theorem L1b (h:Good S B) (c:Int) (l:List Int):∃ r e,S.find c l=some (r,e):=by
 obtain ⟨L,ch,hw⟩:=h
 obtain ⟨e,h1,h2⟩:=N5a hw c l
 unfold Hs.find
 rw [h1]
 simp only [v9b,B5c]
 by_cases he:e ≠ 0
 . rw [H5c he];exact ⟨_,_,rfl⟩
 rw [H4c he]
 obtain ⟨k1,k2,k3⟩:=h2 (by omega)
 have hwz:=S6a hw.fr.toFr (t:=c+1) (by simp [okTag,k1])
 cases ha:Hs.alike l with
 | true=>
  simp only [H2c]
  cases l with
  | nil=>simp at k2;omega
  | cons x l=>exact ⟨x,0,rfl⟩
 | false=>
  simp only [x6b,H1c];obtain ⟨a,e⟩:=O0b hw (q8a hw k1 k2 k3 ha);rw [e];simp only [B5c]
  split
  . exact ⟨_,_,rfl⟩
  exact ⟨_,_,rfl⟩
theorem W9b (h:Good S B) (hB:B < 100000) (a:Int):∃ e S',S.hold a=some (e,S')/\Good S' (B+1)/\Grown S S':=by
 obtain ⟨L,ch,hw⟩:=h
 cases hh:S.has a with
 | false=>
  refine ⟨7,S,by simp [Hs.hold,hh],⟨L,ch,hw.more (by omega) (by omega)⟩,.refl _⟩
 | true=>
  obtain ⟨k,rfl,hk⟩:=U1a hh;obtain ⟨W,e,hw',hl,_⟩:=l5b hw hB hk;exact ⟨0,_,e,⟨L,ch,hw'⟩,⟨rfl,rfl,hl⟩⟩
theorem W1b (h:Good S B) (a:Int):∃ e S',S.drop a=some (e,S')/\Good S' B/\Grown S S':=by
 obtain ⟨L,ch,hw⟩:=id h
 cases hh:S.has a with
 | false=>exact ⟨7,S,by simp [Hs.drop,hh],h,.refl _⟩
 | true=>
  obtain ⟨k,rfl,hk⟩:=U1a hh
  by_cases h0:ow S.words (k+2)=0
  . exact ⟨9,S,k3b hw hk h0,h,.refl _⟩
  obtain ⟨W,e,hw',hl,_⟩:=o1b hw hk h0;exact ⟨0,_,e,⟨L,ch,hw'⟩,⟨rfl,rfl,hl⟩⟩
theorem e4a (h:Good S B):∃ n S',S.collect=some (n,S')/\Good S' B/\Grown S S':=by
 obtain ⟨L,ch,hw⟩:=h
 obtain ⟨T,hT⟩:=M5a hw
 obtain ⟨S',L',e,hc,hw'⟩:=M7a hw hT
 exact ⟨_,S',e,⟨_,_,hw'⟩,⟨hc.sizes,hc.order,hc.len⟩⟩
theorem P9b (h:Good S B):∃ M S',S.moved=some (M,S')/\Good S' B/\Grown S S':=by
 obtain ⟨L,ch,hw⟩:=h
 obtain ⟨M,m,S',L',ch',e,hm,hw',_⟩:=d6b hw
 exact ⟨M,S',e,⟨_,_,hw'⟩,⟨hm.sizes,hm.order,hm.len⟩⟩
theorem Y5b (h:Good s.S B) (hB:B < 100000) (x:Act') (hf:0<=x.fault):∃ s',s.do' x=some s'/\Good s'.S (B+1)/\Grown s.S s'.S:=by
 have up:∀ {S:Hs},Good S B->Good S (B+1):=fun ⟨L,ch,h⟩=>⟨L,ch,h.more (by omega) (by omega)⟩
 unfold Sc.do'
 split
 . obtain ⟨r,e,S',e1,hg,hr⟩:=f5a h (fault:=x.fault) (n:=x.n) hf;rw [e1];exact ⟨_,rfl,up hg,hr⟩
 split
 . dsimp only
   split
   . exact ⟨_,rfl,up h,.refl _⟩
   split
   . obtain ⟨r,e,S',e1,hg,hr⟩:=Z7a h x.a (x.list.map (nameOf s.ats));rw [e1];exact ⟨_,rfl,up hg,hr⟩
   obtain ⟨r,e,e1⟩:=L1b h x.a (x.list.map (nameOf s.ats));rw [e1];exact ⟨_,rfl,up h,.refl _⟩
 split
 . split
   . exact ⟨_,rfl,up h,.refl _⟩
   split
   . obtain ⟨e,S',e1,hg,hr⟩:=W9b h hB (nameOf s.ats x.a);rw [e1];exact ⟨_,rfl,hg,hr⟩
   obtain ⟨e,S',e1,hg,hr⟩:=W1b h (nameOf s.ats x.a);rw [e1];exact ⟨_,rfl,up hg,hr⟩
 split
 . obtain ⟨n,S',e1,hg,hr⟩:=e4a h;rw [e1];exact ⟨_,rfl,up hg,hr⟩
 split
 . obtain ⟨n,S',e1,hg,hr⟩:=e4a h;obtain ⟨M,S2,e2,hg2,hr2⟩:=P9b hg;rw [e1];simp only [v9b,B5c];show ∃ s',((S'.moved).bind _)=some s'/\_
   rw [e2];exact ⟨_,rfl,up hg2,hr.trans hr2⟩
 exact ⟨_,rfl,up h,.refl _⟩
theorem y4a:∀ (l:List Act') (s:Sc) (B:Nat),Good s.S B->B+l.length<=100000->(∀ x ∈ l,0<=x.fault) -> ∃ s',s.play l=some s'/\Good s'.S (B+l.length)/\Grown s.S s'.S
 | [],s,B,h,_,_=>⟨s,rfl,h,.refl _⟩
 | x :: l,s,B,h,hB,hf=>by
  simp only [A5c] at hB;obtain ⟨s1,e1,h1,g1⟩:=Y5b h (by omega) x (hf x (by simp));obtain ⟨s2,e2,h2,g2⟩:=y4a l s1 (B+1) h1 (by omega) fun y hy=>hf y (by simp [hy])
  refine ⟨s2, ?_, ?_,g1.trans g2⟩
  . unfold Sc.play;rw [e1];exact e2
  rw [A5c,show B+(l.length+1)=B+1+l.length by omega];exact h2
theorem f7b (hz:FrOk z o) (h1:20<=n) (h2:n<=100000):∃ S,Hp.new z o n=some S/\S.sizes=z/\S.order=o/\S.words.length=n/\Wf S 0 [⟨17,n-17,true⟩] (fun _=>[]):=by
 obtain ⟨W1,e1,l1,g1⟩:=J8a (W:=List.replicate n (0:Int)) (i:=16) 17 (by simp;omega)
 rw [t0b] at l1
 obtain ⟨W2,e2,l2,g2⟩:=J8a (W:=W1) (i:=18) ((n:Int)-17) (by omega)
 have G:∀ j,ow W2 j=if j=18 then (n:Int)-17 else if j=16 then 17 else 0:=fun j=>by rw [g2,g1,I1b]
 refine ⟨⟨z,o,W2,[]⟩, ?_,rfl,rfl,l2.trans l1, ?_⟩
 . unfold Hp.new;rw [e1];simp only [v9b,B5c];rw [e2];rfl
 exact
 { fr:=hz
   lo:=by show 20<=W2.length;omega
   hi:=by show W2.length<=100000;omega
   bd:=by omega
   parts:=by
    show Parts (ow W2) z _ W2.length;refine ⟨⟨rfl,by show 3<=n-17;omega, ?_⟩,⟨?_, ?_⟩,trivial,fun t ht=>?_⟩
    . show 17+(n-17)=W2.length;omega
    . rw [G];rfl
    . show ow W2 (17+2)=0;rw [G];rfl
    have:t=⟨17,n-17,true⟩:=by simpa using ht
    subst this;unfold G3a;simp only [H2c];refine ⟨by rw [G];rfl, ?_,fun j h1 h2=>?_⟩
    . show ow W2 18=((n-17:Nat):Int);rw [G,H5c rfl];omega
    rw [G,H4c (by omega),H4c (by omega)]
   taken:=rfl
   chains:=⟨fun c hc=>by show ow W2 c=0;rw [G,H4c (by omega),H4c (by omega)],by simp,by simp⟩
   cells:=⟨by simp,by simp,by simp,by simp,by simp⟩
   uses:=fun a ha=>by cases ha
   holds:=fun a ha=>by cases ha }
end Hp
namespace Hp
def X3a (l:List Int):Int:=l.foldl (fun n s=>min 3000 (n * s)) 1
theorem K8b (l:List Int) (x:Int):X3a (l ++ [x])=min 3000 (X3a l * x):=by simp [X3a,z0b]
theorem G5b:∀ (l:List Int) (a:Int),(∀ s ∈ l,1<=s/\s<=12)->1<=a->l.foldl (fun n s=>min 3000 (n * s)) (min 3000 a)=min 3000 (l.foldl (· * ·) a)/\1<=l.foldl (· * ·) a
 | [],a,_,ha=>⟨rfl,ha⟩
 | x :: l,a,h,ha=>by
  obtain ⟨h1,h2⟩:=h x (by simp);have hx:1<=a * x:=by
   have:=E1c ha h1 (by omega) (by omega);omega
  obtain ⟨i1,i2⟩:=G5b l (a * x) (fun s hs=>h s (by simp [hs])) hx;refine ⟨?_,i2⟩;simp only [List.foldl_cons];rw [show min 3000 (min 3000 a * x)=min 3000 (a * x) from ?_]
  . exact i1
  by_cases hc:a<=3000
  . rw [Int.min_eq_right hc]
  rw [Int.min_eq_left (show (3000:Int)<=a by omega)];have e1:(3000:Int)<=3000 * x:=by omega
  have e2:(3000:Int)<=a * x:=by
   have:=E1c (show (3000:Int)<=a by omega) h1 (by omega) (by omega);omega
  rw [Int.min_eq_left e1,Int.min_eq_left e2]
theorem f0b (h:∀ s ∈ l,1<=s/\s<=12):X3a l=min 3000 (l.foldl (· * ·) 1)/\1<=l.foldl (· * ·) 1:=by
 have:=G5b l 1 h (by omega)
 exact this
theorem V5b (h:∀ s ∈ l,1<=s/\s<=12):X3a l > 2000 ↔ l.foldl (· * ·) 1 > 2000:=by
 rw [(f0b h).1]
 omega
def n3b (n:Nat) (o:List Int) (i:Nat):Prop:=∀ k x,k < i->rd o k=some x->(0<=x/\x<=(n:Int)-1) /\ ∀ m y,m < k->rd o m=some y->y ≠ x
def O6b (n:Nat) (o:List Int):Prop:=o.length=n/\n3b n o n
theorem O6b.nodup (h:O6b n o):o.Nodup:=by
 rw [q3b,q9b]
 intro i j hi hj hij e
 have:=(h.2 j o[j] (by have:=h.1;omega) (by unfold rd;rw [r1b])).2 i o[i] hij (by unfold rd;rw [r1b])
 exact this e
theorem O6b.rng (h:O6b n o):∀ x ∈ o,0<=x/\x < n:=fun x hx=>by
 obtain ⟨i,hi,rfl⟩:=u9b hx
 have:=(h.2 i o[i] (by have:=h.1;omega) (by unfold rd;rw [r1b])).1
 omega
theorem J3a:x ∈ upto n ↔ 0<=x/\x < n:=by
 unfold upto
 rw [F7c]
 constructor
 . rintro ⟨k,hk,rfl⟩;have:=D8c.1 hk;omega
 intro h
 exact ⟨x.toNat,D8c.2 (by omega),by omega⟩
theorem V1a:∀ {l m:List Int},l.Nodup->(∀ a ∈ l,a ∈ m)->l.length<=m.length
 | [],_,_,_=>G9c _
 | a :: r,m,hp,hm=>by
  have ha:a ∈ m:=hm a (by simp);obtain ⟨h1,h2⟩:=C2c.1 hp;have:=V1a (l:=r) (m:=m.erase a) h2 (fun b hb=>(t9b (by rintro rfl;exact h1 hb)).2 (hm b (by simp [hb])));rw [r3b ha] at this;have:=s2b ha;simp only [A5c];omega
theorem A3b (n:Nat):(upto n).Pairwise (· < ·):=by
 unfold upto
 rw [y9b]
 exact List.pairwise_lt_range.imp fun h=>by omega
theorem X7b (hl:o.length=n) (hn:o.Nodup) (hr:∀ x ∈ o,0<=x/\x < n):o.Perm (upto n):=by
 have hsub:∀ x ∈ upto n,x ∈ o:=fun x hx=>by
  apply r0b;intro hne;have:=V1a (l:=x :: o) (m:=upto n) (C2c.2 ⟨hne,hn⟩) (fun a ha=>by
   rcases E6c.1 ha with rfl | ha
   . exact hx
   . exact J3a.2 (hr a ha))
  rw [upto_length] at this;simp only [A5c] at this;omega
 refine (List.perm_ext_iff_of_nodup hn ((A3b n).imp fun h=>by omega)).2 fun a=>⟨fun ha=>J3a.2 (hr a ha),hsub a⟩
theorem x1a:O6b n o ↔ Z9a o=upto n:=by
 constructor
 . intro h;refine List.Perm.eq_of_pairwise (le:=fun a b:Int=>a<=b) (fun a b _ _ h1 h2=>by omega) (U5a o) ((A3b n).imp fun h=>by omega) ((K3a o).trans (X7b h.1 h.nodup h.rng))
 intro h
 have hp:o.Perm (upto n):=h ▸ (K3a o).symm
 have hl:o.length=n:=by rw [hp.length_eq,upto_length]
 have hn:o.Nodup:=hp.nodup_iff.2 ((A3b n).imp fun h=>by omega)
 refine ⟨hl,fun k x hk hx=>⟨?_,fun m y hm hy e=>?_⟩⟩
 . have:=J3a.1 (hp.mem_iff.1 (u1b hx));omega
 obtain ⟨l1,e1⟩:=q5b.1 hx
 obtain ⟨l2,e2⟩:=q5b.1 hy
 rw [q3b,q9b] at hn
 exact hn m k l2 l1 hm (by rw [e1,e2];exact e)
theorem H8a (h:A2a z o=0):FrOk z o/\z.foldl (· * ·) 1<=2000:=by
 unfold A2a at h
 split at h
 . cases h
 split at h
 . cases h
 split at h
 . cases h
 split at h
 . rename_i h1 h2 h3 h4;have ho:=x1a.2 h4;have hp:o.Perm (upto z.length):=h4 ▸ (K3a o).symm;refine ⟨{ few:=by omega,pos:=fun s hs=>?_,len:=ho.1,perm:=fun i hi=>hp.mem_iff.2 (J3a.2 (by omega)),rng:=ho.rng,nodup:=ho.nodup },by omega⟩;have h2':z.all (fun n=>decide (1<=n) && decide (n<=12))=true:=by simpa using h2
   have:=A7c.1 h2' s hs
   simpa using this
 cases h
end Hp
open Go.RowKit Go.Maps
theorem SliceAt.two (w:World) (x y:Int) (hx : -9223372036854775808<=x/\x<=9223372036854775807) (hy : -9223372036854775808<=y/\y<=9223372036854775807) (t:TypeId):SliceAt (w.alloc (.cells #[.int .i64 x,.int .i64 y] t)) (some ⟨w.heap.size,0,none⟩) 2 [x,y]:=by
 refine ⟨by simp,by omega,fun z hz=>?_,fun _=>⟨w.heap.size,0,rfl,by simp,fun j z hj=>?_⟩⟩
 . rcases E6c.1 hz with rfl | hz
   . exact hx
   have:z=y:=by simpa using hz
   subst this;exact hy
 match j,hj with
 | 0,hj=>simp [Hp.rd] at hj;subst hj;simp [go_sem]
 | 1,hj=>simp [Hp.rd] at hj;subst hj;simp [go_sem]
 | j+2,hj=>simp [Hp.rd] at hj
theorem SliceAt.two_ (w:World) (g:Nat) (hg:g=w.heap.size) (x y:Int) (hx : -9223372036854775808<=x/\x<=9223372036854775807) (hy : -9223372036854775808<=y/\y<=9223372036854775807) (t:TypeId):SliceAt (w.alloc (.cells #[.int .i64 x,.int .i64 y] t)) (some ⟨g,0,none⟩) 2 [x,y]:=by
 subst hg
 exact SliceAt.two w x y hx hy t
theorem i7b {W:World} {S0:Hp.Hs} {g1 g2:Nat} (hn:32<=n) (hn2:n<=40000) (he:Hp.G1a [2,2] [0,1] n=0) (h0:Hp.new [2,2] [0,1] n=some S0) (h1:SliceAt W (some ⟨g1,0,none⟩) 2 [2,2]) (h2:SliceAt W (some ⟨g2,0,none⟩) 2 [0,1]) :
    Calls prog 36 #[.slice (some ⟨g1,0,none⟩) 2 2,.slice (some ⟨g2,0,none⟩) 2 2,.int .i64 n] W (B4b W S0):=
  i8b (sizes:=[2,2]) (order:=[0,1]) h1 h2 (.inl (by simp)) (.inl (by simp)) (by simp) (by simp) hn hn2 he h0 (by simp)
def e7b (w:World) (S:Hp.Hs) (e:Ending) (w':World):Prop:=∃ d:Hd,e = .returned (.tuple #[.pointer (some ⟨d.hb,0,none⟩),.agg #[.int .i64 17,.int .i64 22,.int .i64 27],.bool true])/\HAt w' d S/\(∀ b ∈ d.own,w.heap.size<=b)/\Ext w w'/\(∀ b o,d.sp=some ⟨b,o,none⟩->w.heap.size<=b) /\ ∀ b o,d.op=some ⟨b,o,none⟩->w.heap.size<=b
theorem e1b {S0 S1 S2 S3:Hp.Hs} (hn:32<=n) (hn2:n<=40000) (he:Hp.G1a [2,2] [0,1] n=0) (h0:Hp.new [2,2] [0,1] n=some S0) (h1:S0.end' (0:Nat) 5=some (17,0,S1)) (h2:S1.end' (0:Nat) 7=some (22,0,S2)) (h3:S2.make 1 [17,22]=some (27,0,S3)) :
    Calls prog 55 #[.int .i64 n] w (e7b w S3):=by
  have HE:=hZ he;have H0:=hZ h0;have H1:=hZ h1;have H2:=hZ h2;have H3:=hZ h3;clear he h0 h1 h2 h3;go_enter func55,ntmps55;have q1:SliceAt (((w.alloc (.cells #[.int .i64 0,.int .i64 0,.int .i64 0] 97)).alloc (.cells #[.int .i64 2,.int .i64 2] 3)).alloc (.cells #[.int .i64 0,.int .i64 1] 3)) (some ⟨w.heap.size+1,0,none⟩) 2 [2,2]:=(SliceAt.two_ _ _ (by simp) 2 2 (by omega) (by omega) _).ext (Ext.alloc (Ext.refl _) _);have q2:SliceAt (((w.alloc (.cells #[.int .i64 0,.int .i64 0,.int .i64 0] 97)).alloc (.cells #[.int .i64 2,.int .i64 2] 3)).alloc (.cells #[.int .i64 0,.int .i64 1] 3)) (some ⟨w.heap.size+1+1,0,none⟩) 2 [0,1]:=SliceAt.two_ _ _ (by simp) 0 1 (by omega) (by omega) _;go_upto_region 2 with (go_at_call 36;refine (i7b hn hn2 HE.out H0.out q1 q2).mono ?_;rintro e w1 ⟨d,rfl,hA1,o1,E1,s1,s2⟩)
  have EW:Ext w w1:=exx;have N1:=hZ (Now.refl hA1);have O1:∀ b ∈ d.own,w.heap.size+3<=b:=fun b hb=>by have:=o1 b hb;simp at this;omega
  have OH:=hZ O1;have S1H:=hZ (fun b o (e:d.sp=some ⟨b,o,none⟩)=>(by have:=s1 b o e;simp at this;omega:w.heap.size+3<=b));have S2H:=hZ (fun b o (e:d.op=some ⟨b,o,none⟩)=>(by have:=s2 b o e;simp at this;omega:w.heap.size+3<=b));clear s1 s2;have z1:w.heap.size+3<=w1.heap.size:=by have:=E1.le;simp at this;omega
  have bx:∀ k,k < 3->w1.cell? ⟨w.heap.size,k,none⟩=some (.int .i64 0):=fun k hk=>by
   rw [E1.cell (by simp;omega) k];have:k=0 \/ k=1 \/ k=2:=by omega
   rcases this with rfl | rfl | rfl <;> simp [go_sem]
  have BX:=hZ bx;have fx:∀ k,w1.frozen? ⟨w.heap.size,k,none⟩=false:=fun k=>by
   rw [E1.frozen (by simp;omega) k];simp [go_sem]
  have FX:=hZ fx;clear hA1 o1 O1 E1 bx fx q1 q2;go_upto_region 3 with (go_at_call 43;refine (C5b N1.out.toHAt (f:=0) (by omega) (by omega) (by omega) H1.out).mono ?_;rintro e w2 ⟨rfl,A2⟩)
  have N2:=hZ (Now.mk A2.toHAt (N1.out.but.trans A2.but));clear A2 N1;go_upto_region 4 with (go_at_call 43;refine (C5b N2.out.toHAt (f:=0) (by omega) (by omega) (by omega) H2.out).mono ?_;rintro e w3 ⟨rfl,A3⟩)
  have N3:=hZ (Now.mk A3.toHAt (N2.out.but.trans A3.but));clear A3 N2;have q3:SliceAt (w3.alloc (.cells #[.int .i64 17,.int .i64 22] 3)) (some ⟨w3.heap.size,0,none⟩) 2 [17,22]:=SliceAt.two w3 17 22 (by omega) (by omega) _;have E3:Ext w3 (w3.alloc (.cells #[.int .i64 17,.int .i64 22] 3)):=Ext.alloc (Ext.refl _) _
  have M3:Calls prog 44 #[.pointer (some ⟨d.hb,0,none⟩),.int .i64 1,.slice (some ⟨w3.heap.size,0,none⟩) 2 2] (w3.alloc (.cells #[.int .i64 17,.int .i64 22] 3)) (Added d (w3.alloc (.cells #[.int .i64 17,.int .i64 22] 3)) (27,0,S3)):=
   s9a (l:=[17,22]) (N3.out.ext E3).toHAt q3 (fun b o e hm=>by
    cases e
    have:=N3.out.D1a _ hm;omega) (by omega) (by omega) H3.out
  clear q3;go_upto_region 5 with (go_at_call 44;refine M3.mono ?_;rintro e w4 ⟨rfl,A4⟩)
  have N4:=hZ (Now.mk A4.toHAt ((N3.out.but.ext E3).trans A4.but));have hx:w.heap.size ∉ d.own:=fun hm=>by have:=OH.out _ hm;omega
  have c0:=(N4.out.but.cell (by omega) hx 0).trans (BX.out 0 (by omega));have c1:=(N4.out.but.cell (by omega) hx 1).trans (BX.out 1 (by omega));have c2:=(N4.out.but.cell (by omega) hx 2).trans (BX.out 2 (by omega));have f0:=(N4.out.but.frozen (by omega) hx 0).trans (FX.out 0);have f1:=(N4.out.but.frozen (by omega) hx 1).trans (FX.out 1);have f2:=(N4.out.but.frozen (by omega) hx 2).trans (FX.out 2);clear A4 M3 N3 E3
  go_wp2_with fail
  have kb:But [w.heap.size] w4 (((w4.setCell ⟨w.heap.size,0,none⟩ (.int .i64 17)).setCell ⟨w.heap.size,1,none⟩ (.int .i64 22)).setCell ⟨w.heap.size,2,none⟩ (.int .i64 27)):=
   (((But.refl _ _).setCell (.inl (by simp)) _).setCell (.inl (by simp)) _).setCell (.inl (by simp)) _
  have hx2:=OH.out _ d.S2a;have hx3:=OH.out _ d.L6a;have hx4:=OH.out _ d.I7a
  have A5:HAt (((w4.setCell ⟨w.heap.size,0,none⟩ (.int .i64 17)).setCell ⟨w.heap.size,1,none⟩ (.int .i64 22)).setCell ⟨w.heap.size,2,none⟩ (.int .i64 27)) d S3:=
   N4.out.toHAt.but kb (by simp;omega) (by simp;omega) (by simp;omega) (fun b o e=>by have:=S1H.out b o e;simp;omega) (fun b o e=>by have:=S2H.out b o e;simp;omega)
  have X4:Ext w w4:=But.D3a EW N4.out.but (fun b hb=>by have:=OH.out b hb;omega);refine bodyPost_ret (v:=.tuple #[.pointer (some ⟨d.hb,0,none⟩),.agg #[.int .i64 17,.int .i64 22,.int .i64 27],.bool true]) (by simp [results,results55,go_sem, *]) rfl ⟨d,rfl,A5,(fun b hb=>by have:=OH.out b hb;omega),exx,(fun b o e=>by have:=S1H.out b o e;omega),(fun b o e=>by have:=S2H.out b o e;omega)⟩
namespace Aw
def none':Hp.Hs:=⟨[],[],[],[]⟩
def S0:Hp.Hs:=(Hp.new [2,2] [0,1] 39).getD none'
def S1:Hp.Hs:=((S0.end' (0:Nat) 5).getD (0,0,none')).2.2
def S2:Hp.Hs:=((S1.end' (0:Nat) 7).getD (0,0,none')).2.2
def S3:Hp.Hs:=((S2.make 1 [17,22]).getD (0,0,none')).2.2
def S4:Hp.Hs:=((S3.make 0 [17,27]).getD (0,0,none')).2.2
def S5:Hp.Hs:=((S4.hold 27).getD (0,none')).2
def S6:Hp.Hs:=(S5.collect.getD (0,none')).2
def L6:List (Nat × Nat):=(S6.C8a S6.fuel 17).getD []
theorem e0:Hp.new [2,2] [0,1] 39=some S0:=by kernel_rfl
theorem ee:Hp.G1a [2,2] [0,1] (39:Nat)=0:=by kernel_rfl
theorem e1:S0.end' (0:Nat) 5=some (17,0,S1):=by kernel_rfl
theorem e2:S1.end' (0:Nat) 7=some (22,0,S2):=by kernel_rfl
theorem e3:S2.make 1 [17,22]=some (27,0,S3):=by kernel_rfl
theorem e4:S3.make 0 [17,27]=some (33,0,S4):=by kernel_rfl
theorem e5:S4.hold 27=some (0,S5):=by kernel_rfl
theorem e6:S5.collect=some (1,S6):=by kernel_rfl
theorem el:S6.live=some [17,22,27]:=by kernel_rfl
theorem ep:S6.C8a S6.fuel 17=some L6:=by kernel_rfl
theorem eg:S6.B5a L6=(6,6):=by kernel_rfl
theorem et:S6.taken.length=3:=by kernel_rfl
theorem ew:S4.words.length=39:=by kernel_rfl
theorem es:decide (S4.words.drop 16=T0a)=true:=by kernel_rfl
theorem r1:Hp.rd S4.words 1=some 17:=by kernel_rfl
theorem r3:Hp.rd S4.words 3=some 22:=by kernel_rfl
theorem r11:Hp.rd S4.words 11=some 27:=by kernel_rfl
theorem r14:Hp.rd S4.words 14=some 33:=by kernel_rfl
theorem h27:S6.has (27:Nat)=true:=by kernel_rfl
theorem t27:S6.tag 27=some 2:=by kernel_rfl
theorem k27:S6.kids 27=some [17,22]:=by kernel_rfl
theorem h22:S6.has (22:Nat)=true:=by kernel_rfl
theorem t22:S6.tag 22=some 20:=by kernel_rfl
theorem n22:Hp.rd S6.words (22+4)=some 7:=by kernel_rfl
end Aw
namespace Nd
open Hp
structure Dia where
 sizes:List Int
 order:List Int
 ends:List (Int × Int)
 nodes:List (Int × List Int)
 root:Int
namespace Dia
def nodeAt (d:Dia) (i:Nat):Int × List Int:=d.nodes[i]?.getD (0,[])
def l7a (d:Dia) (i:Nat):Int × Int:=d.ends[i]?.getD (0,0)
def srch (d:Dia):Nat->Int->List Int × List Int->List Int × List Int
 | 0,_,t=>t
 | n+1,r,t=>
  if r < 0 then (if -1-r ∈ t.2 then t else (t.1,t.2 ++ [-1-r]))
  else if r ∈ t.1 then t
  else
   let t:=(d.nodeAt r.toNat).2.foldl (fun t k=>d.srch n k t) t
   (t.1 ++ [r],t.2)
end Dia
structure Cl where
 known:List (Nat × Int)
 ends:List (Int × Int)
 nodes:List (Int × List Int)
def mEnd (v:Int × Int) (s:Cl):Int × Cl:=
 match s.ends.idxOf? v with
 | some i=>(-1-(i:Int),s)
 | none=>(-1-(s.ends.length:Int),{ s with ends:=s.ends ++ [v] })
def flat (l:List Int):Bool:=l.all fun k=>k == l.headD 0
def O3a (q:Int × List Int) (s:Cl):Int × Cl:=
 if flat q.2 then (q.2.headD 0,s) else
 match s.nodes.idxOf? q with
 | some i=>((i:Int),s)
 | none=>((s.nodes.length:Int),{ s with nodes:=s.nodes ++ [q] })
def mapS (f:Int->Cl->Int × Cl):List Int->Cl->List Int × Cl
 | [],s=>([],s)
 | k :: r,s=>
  let p:=f k s
  let q:=mapS f r p.2
  (p.1 :: q.1,q.2)
namespace Dia
def C3a (d:Dia):Nat->Int->Cl->Int × Cl
 | 0,r,s=>(r,s)
 | n+1,r,s=>
  if r < 0 then mEnd (d.l7a (-1-r).toNat) s else
  match getI r.toNat s.known with
  | some x=>(x,s)
  | none=>
   let p:=mapS (d.C3a n) (d.nodeAt r.toNat).2 s
   let q:=O3a ((d.nodeAt r.toNat).1,p.1) p.2
   (q.1,{ q.2 with known:=putI r.toNat q.1 q.2.known })
def Ref (d:Dia) (r:Int) (n:Nat):Prop:=r < n /\ -1-r < d.ends.length
def Low (d:Dia):Prop:=∀ i,i < d.nodes.length -> ∀ k ∈ (d.nodeAt i).2,d.Ref k i
end Dia
def upto (n:Nat):List Int:=(List.range n).map Int.ofNat
theorem J3a:x ∈ upto n ↔ 0<=x/\x < n:=by
 unfold upto
 simp only [F7c,D8c]
 constructor
 . rintro ⟨i,hi,rfl⟩;simp only [Int.ofNat_eq_natCast];omega
 intro h
 exact ⟨x.toNat,by omega,by simp only [Int.ofNat_eq_natCast];omega⟩
theorem upto_succ (n:Nat):upto (n+1)=upto n ++ [(n:Int)]:=by simp [upto,List.range_succ]
theorem R7a (n:Nat):(upto n).length=n:=by simp [upto]
theorem H1b (h:upto a=upto b):a=b:=by simpa [R7a] using congrArg List.length h
theorem H6b (h:l <+: upto a):l=upto l.length/\l.length<=a:=by
 have hl:l.length<=a:=by simpa [R7a] using h.length_le
 refine ⟨?_,hl⟩
 have:=List.prefix_iff_eq_take.1 h
 rw [this]
 simp only [upto,<- List.map_take,List.take_range,C6c,y5b]
structure Par (d:Dia) (s:Cl) (t:List Int × List Int) (a b:Nat):Prop where
 a_le:a<=d.nodes.length
 b_le:b<=d.ends.length
 nodes:s.nodes=d.nodes.take a
 ends:s.ends=d.ends.take b
 known:∀ i,getI i s.known=if i < a then some (i:Int) else none
 up:J6a s.known
 t:t=(upto a,upto b)
def Fine (d:Dia) (s:Cl) (t:List Int × List Int):Prop:=(t.1 <+: upto d.nodes.length/\t.2 <+: upto d.ends.length) \/ (s.nodes <+: d.nodes/\s.ends <+: d.ends)
def ClLe (s s':Cl):Prop:=s.nodes <+: s'.nodes/\s.ends <+: s'.ends
theorem ClLe.refl (s:Cl):ClLe s s:=⟨B4c _,B4c _⟩
theorem ClLe.trans {a b c:Cl} (h:ClLe a b) (k:ClLe b c):ClLe a c:=⟨h.1.trans k.1,h.2.trans k.2⟩
def TLe (t t':List Int × List Int):Prop:=t.1 <+: t'.1/\t.2 <+: t'.2
theorem TLe.refl (s:List Int × List Int):TLe s s:=⟨B4c _,B4c _⟩
theorem TLe.trans {a b c:List Int × List Int} (h:TLe a b) (k:TLe b c):TLe a c:=⟨h.1.trans k.1,h.2.trans k.2⟩
theorem Fine.back {d:Dia} {s s':Cl} {t t':List Int × List Int} (h:Fine d s' t') (k:ClLe s s') (j:TLe t t'):Fine d s t:=by
 rcases h with h | h
 . exact .inl ⟨j.1.trans h.1,j.2.trans h.2⟩
 exact .inr ⟨k.1.trans h.1,k.2.trans h.2⟩
theorem l0b (v:Int × Int) (s:Cl):ClLe s (mEnd v s).2:=by
 unfold mEnd
 split
 . exact ClLe.refl _
 exact ⟨B4c _,x1b _ _⟩
theorem H8b (q:Int × List Int) (s:Cl):ClLe s (O3a q s).2:=by
 unfold O3a
 split
 . exact ClLe.refl _
 split
 . exact ClLe.refl _
 exact ⟨x1b _ _,B4c _⟩
theorem A6b {f:Int->Cl->Int × Cl} (hf:∀ k s,ClLe s (f k s).2):∀ (l:List Int) (s:Cl),ClLe s (mapS f l s).2
 | [],s=>ClLe.refl s
 | k :: r,s=>(hf k s).trans (A6b hf r _)
theorem E3b (d:Dia):∀ (n:Nat) (r:Int) (s:Cl),ClLe s (d.C3a n r s).2
 | 0,_,s=>ClLe.refl s
 | n+1,r,s=>by
  unfold Dia.C3a
  split
  . exact l0b _ _
  split
  . exact ClLe.refl _
  exact (A6b (E3b d n) _ _).trans (H8b _ _)
theorem A1b {g:List Int × List Int->Int->List Int × List Int} (hg:∀ t k,TLe t (g t k)):∀ (l:List Int) (t:List Int × List Int),TLe t (l.foldl g t)
 | [],t=>TLe.refl t
 | k :: r,t=>(hg t k).trans (A1b hg r _)
theorem S9b (d:Dia):∀ (n:Nat) (r:Int) (t:List Int × List Int),TLe t (d.srch n r t)
 | 0,_,t=>TLe.refl t
 | n+1,r,t=>by
  unfold Dia.srch
  split
  . split
    . exact TLe.refl _
    exact ⟨B4c _,x1b _ _⟩
  split
  . exact TLe.refl _
  have:=A1b (fun t k=>S9b d n k t) (d.nodeAt r.toNat).2 t;exact ⟨this.1.trans (x1b _ _),this.2⟩
theorem i5a {α:Type} {l:List α} (hn:l.Nodup) {v:α} (hi:l[i]? = some v) (hj:l[j]? = some v):i=j:=by
 have hlt:i < l.length:=by
  rcases G3c i l.length with h | h
  . exact h
  rw [s9b h] at hi
  cases hi
 exact (List.getElem?_inj hlt hn).1 (hi.trans hj.symm)
theorem g3a {α:Type} [BEq α] [LawfulBEq α] {l:List α} (hn:l.Nodup) {b e:Nat} {v:α} (he:l[e]? = some v):(l.take b).idxOf? v=if e < b then some e else none:=by
 have key:∀ j (hj:j < (l.take b).length),(l.take b)[j]=v->j=e/\j < b:=by
  intro j hj e';have hj':j < b/\j < l.length:=by simp only [A3c] at hj;omega
  refine ⟨i5a hn ?_ he,hj'.1⟩;rw [r1b hj'.2];simp only [List.getElem_take] at e';rw [e']
 split
 . rename_i h;have hlt:e < (l.take b).length:=by
    have:e < l.length:=by
     rcases G3c e l.length with h | h
     . exact h
     rw [s9b h] at he
     cases he
    simp only [A3c];omega
   have hv:(l.take b)[e]=v:=by
    have:(l.take b)[e]? = some v:=by rw [r2b h,he]
    rw [r1b hlt] at this;exact D3c this
   cases hx:(l.take b).idxOf? v with
   | none=>exact absurd (hv ▸ A4c hlt) (r9b.1 hx)
   | some i=>
    obtain ⟨hi,he',_⟩:=List.idxOf?_eq_some_iff.1 hx;rw [(key i hi he').1]
 rename_i h
 rw [r9b]
 intro hm
 obtain ⟨j,hj,e'⟩:=u9b hm
 have:=key j hj e'
 omega
theorem take_snoc {α:Type} {l:List α} {v:α} (h:l[b]? = some v):l.take b ++ [v]=l.take (b+1):=by
 rw [y6b,h];rfl
theorem J0b {α:Type} {l:List α} (hn:l.Nodup) {e:Nat} {v:α} (hb:b<=l.length) (he:l[e]? = some v) (h:l.take b ++ [v] <+: l):b=e:=by
 obtain ⟨r,hr⟩:=h
 refine i5a hn ?_ he
 rw [<- hr]
 have hl:(l.take b).length=b:=by simp only [A3c];omega
 rw [y1b,q0b (by omega),hl]
 simp
structure Once (d:Dia):Prop where
 ends:d.ends.Nodup
 nodes:d.nodes.Nodup
 flat:∀ q ∈ d.nodes,flat q.2=false
def Step (d:Dia) (n:Nat):Prop:=∀ (r:Int) (s:Cl) (t:List Int × List Int) (a b:Nat),d.Ref r n->n<=d.nodes.length->Par d s t a b->Fine d (d.C3a (n+1) r s).2 (d.srch (n+1) r t) ->
 ∃ a' b',(d.C3a (n+1) r s).1=r/\Par d (d.C3a (n+1) r s).2 (d.srch (n+1) r t) a' b'/\a'<=max a (r+1).toNat
theorem step_end {d:Dia} (O:Once d) (n:Nat) {r:Int} (hr:r < 0) {s:Cl} {t:List Int × List Int} (hR : -1-r < d.ends.length) (P:Par d s t a b) (hF:Fine d (d.C3a (n+1) r s).2 (d.srch (n+1) r t)) :
    ∃ a' b',(d.C3a (n+1) r s).1=r/\Par d (d.C3a (n+1) r s).2 (d.srch (n+1) r t) a' b'/\a'<=max a (r+1).toNat:=by
  obtain ⟨e,rfl⟩:∃ e:Nat,r = -1-(e:Int):=⟨(-1-r).toNat,by omega⟩
  have he:e < d.ends.length:=by omega
  have hv:d.ends[e]? = some (d.l7a e):=by unfold Dia.l7a;rw [r1b he];rfl
  have h1:(-1-(-1-(e:Int))).toNat=e:=by omega
  have h2 : -1-(-1-(e:Int))=e:=by omega
  unfold Dia.C3a Dia.srch at hF ⊢;simp only [H5c hr,h1,h2,z5b] at hF ⊢;have hi:=g3a O.ends (b:=b) hv;unfold mEnd at hF ⊢;rw [P.ends,hi,P.t] at hF ⊢
  by_cases hb:e < b
  . have hm:(e:Int) ∈ upto b:=J3a.2 ⟨by omega,by omega⟩;simp only [H5c hb,H5c hm] at hF ⊢;refine ⟨a,b,trivial, ?_,by omega⟩;rw [<- P.t];exact P
  have hm:¬ (e:Int) ∈ upto b:=fun h=>by have:=J3a.1 h;omega
  have hlen:(d.ends.take b).length=b:=by have:=P.b_le;simp only [A3c];omega
  simp only [H4c hb,H4c hm,hlen] at hF ⊢;have hbe:b=e:=by
   rcases hF with h | h
   . obtain ⟨_,h3⟩:=h;have h4:=(H6b h3).1;have h5:upto b ++ [(e:Int)]=upto b ++ [(b:Int)]:=by
      rw [<- upto_succ]
      simpa [R7a] using h4
     have:=List.append_cancel_left h5;simp only [D6c,and_true] at this;omega
   exact J0b O.ends P.b_le hv h.2
  subst hbe;refine ⟨a,b+1,rfl,⟨P.a_le,he,P.nodes,take_snoc hv,P.known,P.up, ?_⟩,by omega⟩;rw [upto_succ]
theorem x7a {d:Dia} {n m:Nat} (ih:Step d n) (hn:n<=d.nodes.length):∀ (l:List Int) (s:Cl) (t:List Int × List Int) (a b:Nat),(∀ k ∈ l,d.Ref k n/\(k+1).toNat<=m)->Par d s t a b->a<=m ->
    Fine d (mapS (d.C3a (n+1)) l s).2 (l.foldl (fun t k=>d.srch (n+1) k t) t) ->
    ∃ a' b',(mapS (d.C3a (n+1)) l s).1=l/\Par d (mapS (d.C3a (n+1)) l s).2 (l.foldl (fun t k=>d.srch (n+1) k t) t) a' b'/\a'<=m
  | [],s,t,a,b,_,P,ha,_=>⟨a,b,rfl,P,ha⟩
  | k :: r,s,t,a,b,hl,P,ha,hF=>by
   have hk:=hl k (by simp);have hF1:Fine d (d.C3a (n+1) k s).2 (d.srch (n+1) k t):=by
    refine hF.back ?_ ?_
    . exact A6b (E3b d (n+1)) r _
    exact A1b (fun t k=>S9b d (n+1) k t) r _
   obtain ⟨a1,b1,e1,P1,h1⟩:=ih k s t a b hk.1 hn P hF1;obtain ⟨a2,b2,e2,P2,h2⟩:=x7a ih hn r _ _ a1 b1 (fun k hk=>hl k (by simp [hk])) P1 (by have:=hk.2;omega) hF;exact ⟨a2,b2,by simp only [mapS,e1,e2],P2,h2⟩
theorem U5b {K:List (Nat × Int)} (hu:J6a K) (h:∀ i,getI i K=if i < a then some (i:Int) else none):∀ i,getI i (putI a (a:Int) K)=if i < a+1 then some (i:Int) else none:=by
 intro i
 rw [M4a hu,h i]
 by_cases e:i=a
 . subst e;simp
 rw [H4c e]
 by_cases h2:i < a
 . rw [H5c h2,H5c (by omega)]
 rw [H4c h2,H4c (by omega)]
theorem step {d:Dia} (O:Once d) (hL:d.Low):∀ n,Step d n
 | n,r,s,t,a,b,hR,hn,P,hF=>by
  by_cases hr:r < 0
  . exact step_end O n hr hR.2 P hF
  obtain ⟨i,rfl⟩:∃ i:Nat,r=(i:Int):=⟨r.toNat,by omega⟩
  have hin:i < n:=by have:=hR.1;omega
  have hi:i < d.nodes.length:=by omega
  obtain ⟨n',rfl⟩:∃ n',n=n'+1:=⟨n-1,by omega⟩
  have ih:=step O hL n';have hv:d.nodes[i]? = some (d.nodeAt i):=by unfold Dia.nodeAt;rw [r1b hi];rfl
  rw [Dia.C3a,Dia.srch] at hF ⊢;simp only [H4c hr,z5b] at hF ⊢;rw [P.known i] at hF ⊢
  by_cases ha:i < a
  . have hm:(i:Int) ∈ t.1:=by rw [P.t];exact J3a.2 ⟨by omega,by omega⟩
    simp only [H5c ha,H5c hm] at hF ⊢;exact ⟨a,b,trivial,P,by omega⟩
  have hm:¬ (i:Int) ∈ t.1:=fun h=>by rw [P.t] at h;have:=J3a.1 h;omega
  simp only [H4c ha,H4c hm] at hF ⊢;have hk:∀ k ∈ (d.nodeAt i).2,d.Ref k n'/\(k+1).toNat<=i:=by
   intro k hk;have:=hL i hi k hk;exact ⟨⟨by have:=this.1;omega,this.2⟩,by have:=this.1;omega⟩
  generalize ep:mapS (d.C3a (n'+1)) (d.nodeAt i).2 s=p at hF ⊢;generalize eu:(d.nodeAt i).2.foldl (fun t k=>d.srch (n'+1) k t) t=u at hF ⊢;have hF1:Fine d p.2 u:=by
   rcases hF with h | h
   . exact .inl ⟨(x1b _ _).trans h.1,h.2⟩
   have:=H8b ((d.nodeAt i).1,p.1) p.2;exact .inr ⟨this.1.trans h.1,this.2.trans h.2⟩
  obtain ⟨a1,b1,e1,P1,h1⟩:=x7a (m:=i) ih (by omega) (d.nodeAt i).2 s t a b hk P (by omega) (by rw [ep,eu];exact hF1);rw [ep] at e1 P1;rw [eu] at P1;have hq:((d.nodeAt i).1,p.1)=d.nodeAt i:=by rw [e1]
  rw [hq] at hF ⊢;have hfl:flat (d.nodeAt i).2=false:=O.flat _ (u1b hv);have hix:=g3a O.nodes (b:=a1) hv;rw [H4c (by omega)] at hix;have hlen:(d.nodes.take a1).length=a1:=by have:=P1.a_le;simp only [A3c];omega
  unfold O3a at hF ⊢;simp only [hfl,x6b,H1c,P1.nodes,hix,hlen] at hF ⊢;have hae:a1=i:=by
   rcases hF with h | h
   . have h3:=h.1;rw [P1.t] at h3;have h4:=(H6b h3).1;have h5:upto a1 ++ [(i:Int)]=upto a1 ++ [(a1:Int)]:=by
      rw [<- upto_succ]
      simpa [R7a] using h4
     have:=List.append_cancel_left h5;simp only [D6c,and_true] at this;omega
   exact J0b O.nodes P1.a_le hv h.1
  subst hae;refine ⟨a1+1,b1,rfl,⟨hi,P1.b_le,take_snoc hv,P1.ends,U5b P1.up P1.known,M6a P1.up, ?_⟩,by omega⟩;rw [P1.t,upto_succ]
structure ClOk (s:Cl):Prop where
 ends:s.ends.Nodup
 nodes:s.nodes.Nodup
 flat:∀ q ∈ s.nodes,flat q.2=false
theorem P8a {α:Type} {l:List α} {v:α} (h:l.Nodup) (hv:v ∉ l):(l ++ [v]).Nodup:=by
 rw [y8b]
 refine ⟨h,by simp,fun a ha b hb e=>?_⟩
 simp only [w8b] at hb
 exact hv (hb ▸ e ▸ ha)
theorem k7b {v:Int × Int} {s:Cl} (h:ClOk s):ClOk (mEnd v s).2:=by
 unfold mEnd
 split
 . exact h
 rename_i e
 exact ⟨P8a h.ends (r9b.1 e),h.nodes,h.flat⟩
theorem d4b {q:Int × List Int} {s:Cl} (h:ClOk s):ClOk (O3a q s).2:=by
 unfold O3a
 split
 . exact h
 rename_i hf
 split
 . exact h
 rename_i e
 refine ⟨h.ends,P8a h.nodes (r9b.1 e),fun q' hq=>?_⟩
 simp only [C4c,w8b] at hq
 rcases hq with hq | rfl
 . exact h.flat _ hq
 simpa using hf
theorem S3b {f:Int->Cl->Int × Cl} (hf:∀ k s,ClOk s->ClOk (f k s).2):∀ (l:List Int) (s:Cl),ClOk s->ClOk (mapS f l s).2
 | [],_,h=>h
 | k :: r,s,h=>S3b hf r _ (hf k s h)
theorem F0b (d:Dia):∀ (n:Nat) (r:Int) (s:Cl),ClOk s->ClOk (d.C3a n r s).2
 | 0,_,_,h=>h
 | n+1,r,s,h=>by
  unfold Dia.C3a
  split
  . exact k7b h
  split
  . exact h
  have:=d4b (q:=((d.nodeAt r.toNat).1,(mapS (d.C3a n) (d.nodeAt r.toNat).2 s).1)) (S3b (F0b d n) (d.nodeAt r.toNat).2 s h);exact ⟨this.ends,this.nodes,this.flat⟩
namespace Dia
def clean (d:Dia):Int × Cl:=d.C3a (d.nodes.length+1) d.root ⟨[],[],[]⟩
structure Is (d:Dia):Prop extends Once d where
 search:d.srch (d.nodes.length+1) d.root ([],[])=(upto d.nodes.length,upto d.ends.length)
end Dia
theorem Y2b {d:Dia} (hL:d.Low) (hr:d.Ref d.root d.nodes.length):(d.clean.1=d.root/\d.clean.2.ends=d.ends/\d.clean.2.nodes=d.nodes) ↔ d.Is:=by
 have P0:Par d ⟨[],[],[]⟩ ([],[]) 0 0:=⟨by omega,by omega,by simp,by simp,fun i=>by simp [getI],List.Pairwise.nil,rfl⟩
 constructor
 . rintro ⟨_,h2,h3⟩;have hok:=F0b d (d.nodes.length+1) d.root ⟨[],[],[]⟩ ⟨by simp,by simp,by simp⟩;have O:Once d:=⟨h2 ▸ hok.ends,h3 ▸ hok.nodes,h3 ▸ hok.flat⟩
   obtain ⟨a,b,_,P,_⟩:=step O hL d.nodes.length d.root _ _ 0 0 hr (H0c _) P0 (.inr ⟨by show d.clean.2.nodes <+: _;rw [h3];exact B4c _,by show d.clean.2.ends <+: _;rw [h2];exact B4c _⟩);refine ⟨O, ?_⟩;have ha:a=d.nodes.length:=by
    have:=P.nodes;rw [show (d.C3a (d.nodes.length+1) d.root ⟨[],[],[]⟩).2.nodes=d.nodes from h3] at this;have h4:=congrArg List.length this;have:=P.a_le;simp only [A3c] at h4;omega
   have hb:b=d.ends.length:=by
    have:=P.ends;rw [show (d.C3a (d.nodes.length+1) d.root ⟨[],[],[]⟩).2.ends=d.ends from h2] at this;have h4:=congrArg List.length this;have:=P.b_le;simp only [A3c] at h4;omega
   rw [P.t,ha,hb]
 intro h
 obtain ⟨a,b,e,P,_⟩:=step h.toOnce hL d.nodes.length d.root _ _ 0 0 hr (H0c _) P0 (.inl (by rw [h.search];exact ⟨B4c _,B4c _⟩))
 have h4:=P.t
 rw [h.search,F1c] at h4
 have ha:=H1b h4.1
 have hb:=H1b h4.2
 refine ⟨e, ?_, ?_⟩
 . show (d.C3a _ _ _).2.ends=_;rw [P.ends,<- hb,A8c]
 show (d.C3a _ _ _).2.nodes=_
 rw [P.nodes,<- ha,A8c]
end Nd
namespace Nd
open Hp
structure Bnd (d:Dia) (t:List Int × List Int):Prop where
 n1:t.1.Nodup
 n2:t.2.Nodup
 b1:∀ x ∈ t.1,0<=x/\x < d.nodes.length
 b2:∀ x ∈ t.2,0<=x/\x < d.ends.length
theorem Bnd.len {d:Dia} {t:List Int × List Int} (h:Bnd d t):t.1.length<=d.nodes.length/\t.2.length<=d.ends.length:=by
 have h1:=V1a (m:=upto d.nodes.length) h.n1 fun a ha=>J3a.2 (h.b1 a ha)
 have h2:=V1a (m:=upto d.ends.length) h.n2 fun a ha=>J3a.2 (h.b2 a ha)
 rw [R7a] at h1 h2
 exact ⟨h1,h2⟩
theorem Bnd.start (d:Dia):Bnd d ([],[]):=⟨by simp,by simp,by simp,by simp⟩
theorem r5a {d:Dia} {g:List Int × List Int->Int->List Int × List Int} {j:Int}:∀ (l:List Int) (t:List Int × List Int),(∀ k ∈ l,k < j /\ ∀ t,Bnd d t->Bnd d (g t k) /\ ∀ x ∈ (g t k).1,x ∈ t.1 \/ x<=k)->Bnd d t->Bnd d (l.foldl g t) /\ ∀ x ∈ (l.foldl g t).1,x ∈ t.1 \/ x < j
 | [],t,_,h=>⟨h,fun x hx=>.inl hx⟩
 | k :: r,t,hl,h=>by
  have hk:=hl k (by simp);obtain ⟨h1,h2⟩:=hk.2 t h;obtain ⟨h3,h4⟩:=r5a r (g t k) (fun k hk=>hl k (by simp [hk])) h1;refine ⟨h3,fun x hx=>?_⟩
  rcases h4 x hx with h5 | h5
  . rcases h2 x h5 with h6 | h6
    . exact .inl h6
    exact .inr (by have:=hk.1;omega)
  exact .inr h5
theorem p8a {d:Dia} (hL:d.Low):∀ (n:Nat) (r:Int) (t:List Int × List Int),d.Ref r n->n<=d.nodes.length->Bnd d t->Bnd d (d.srch (n+1) r t) /\ ∀ x ∈ (d.srch (n+1) r t).1,x ∈ t.1 \/ x<=r
 | n,r,t,hR,hn,h=>by
  rw [Dia.srch]
  by_cases hr:r < 0
  . rw [H5c hr]
    by_cases hm : -1-r ∈ t.2
    . rw [H5c hm];exact ⟨h,fun x hx=>.inl hx⟩
    rw [H4c hm];refine ⟨⟨h.n1,P8a h.n2 hm,h.b1,fun x hx=>?_⟩,fun x hx=>.inl hx⟩
    rcases C4c.1 hx with hx | hx
    . exact h.b2 x hx
    simp only [w8b] at hx;have:=hR.2;omega
  rw [H4c hr]
  by_cases hm:r ∈ t.1
  . rw [H5c hm];exact ⟨h,fun x hx=>.inl hx⟩
  rw [H4c hm];have hr1:=hR.1;obtain ⟨n',rfl⟩:∃ n',n=n'+1:=⟨n-1,by omega⟩
  have hk:∀ k ∈ (d.nodeAt r.toNat).2,d.Ref k n'/\k < r:=by
   intro k hk;have:=hL r.toNat (by omega) k hk;exact ⟨⟨by have:=this.1;omega,this.2⟩,by have:=this.1;omega⟩
  obtain ⟨h1,h2⟩:=r5a (d:=d) (j:=r) (g:=fun t k=>d.srch (n'+1) k t) (d.nodeAt r.toNat).2 t (fun k hk'=>⟨(hk k hk').2,fun t ht=>p8a hL n' k t (hk k hk').1 (by omega) ht⟩) h;refine ⟨⟨P8a h1.n1 fun hx=>?_,h1.n2,fun x hx=>?_,h1.b2⟩,fun x hx=>?_⟩
  . rcases h2 r hx with h3 | h3
    . exact hm h3
    omega
  . rcases C4c.1 hx with hx | hx
    . exact h1.b1 x hx
    simp only [w8b] at hx;omega
  rcases C4c.1 hx with hx | hx
  . rcases h2 x hx with h3 | h3
    . exact .inl h3
    exact .inr (by omega)
  simp only [w8b] at hx;exact .inr (by omega)
end Nd
namespace Nd
open Hp
structure ClIn (d:Dia) (s:Cl):Prop where
 nd:s.ends.Nodup
 es:∀ v ∈ s.ends,v ∈ d.ends
 nn:s.nodes.length<=s.known.length
 up:J6a s.known
 kn:∀ p ∈ s.known,p.1 < d.nodes.length
 kv:∀ p ∈ s.known,-(s.ends.length:Int)<=p.2/\p.2 < s.nodes.length
 ns:∀ q ∈ s.nodes,(∃ q' ∈ d.nodes,q.1=q'.1/\q.2.length=q'.2.length) /\ ∀ k ∈ q.2,-(s.ends.length:Int)<=k/\k < s.nodes.length
theorem ClIn.start (d:Dia):ClIn d ⟨[],[],[]⟩:=⟨List.nodup_nil,by simp,by simp,List.Pairwise.nil,by simp,by simp,by simp⟩
theorem C4a {α:Type} [DecidableEq α]:∀ {l m:List α},l.Nodup->(∀ x ∈ l,x ∈ m)->l.length<=m.length
 | [],_,_,_=>by simp
 | a :: r,m,h,k=>by
  have ha:=k a (by simp);obtain ⟨h1,h2⟩:=C2c.1 h;have:=C4a (l:=r) (m:=m.erase a) h2 (fun x hx=>by
   have hne:x ≠ a:=fun e=>h1 (e ▸ hx)
   exact (t9b hne).2 (k x (by simp [hx])))
  rw [r3b ha] at this;have:=s2b ha;simp;omega
theorem m4a (h:J6a M) (k:∀ p ∈ M,p.1 < n):M.length<=n:=by
 have h1:(M.map Prod.fst).Nodup:=by
  rw [q3b,y9b];exact List.Pairwise.imp (fun {a b} hab=>Nat.ne_of_lt hab) h
 have:=C4a (m:=List.range n) h1 (fun x hx=>by
  obtain ⟨p,hp,rfl⟩:=F7c.1 hx;exact D8c.2 (k p hp))
 simpa using this
theorem ClIn.few {d:Dia} {s:Cl} (h:ClIn d s):s.ends.length<=d.ends.length/\s.nodes.length<=d.nodes.length/\s.known.length<=d.nodes.length:=
 ⟨C4a h.nd h.es,G5c h.nn (m4a h.up h.kn),m4a h.up h.kn⟩
structure ClTo (d:Dia) (s:Cl) (r x:Int) (s':Cl):Prop where
 ok:ClIn d s'
 le:ClLe s s'
 lo : -(s'.ends.length:Int)<=x
 hi:x < s'.nodes.length
 kd:∀ p ∈ s'.known,p ∈ s.known \/ (p.1:Int)<=r
theorem ClLe.len {s s':Cl} (h:ClLe s s'):s.ends.length<=s'.ends.length/\s.nodes.length<=s'.nodes.length:=⟨h.2.length_le,h.1.length_le⟩
theorem j3b {d:Dia} {s:Cl} {v:Int × Int} {r:Int} (h:ClIn d s) (hv:v ∈ d.ends):ClTo d s r (mEnd v s).1 (mEnd v s).2:=by
 unfold mEnd
 cases hi:s.ends.idxOf? v with
 | some i=>
  have:=(p4b.1 hi).1;exact ⟨h,ClLe.refl s,by simp only;omega,by simp only;omega,fun p hp=>.inl hp⟩
 | none=>
  have hn:=r9b.1 hi;refine ⟨⟨P8a h.nd hn,fun x hx=>?_,h.nn,h.up,h.kn,fun p hp=>?_,fun q hq=>⟨(h.ns q hq).1,fun k hk=>?_⟩⟩,⟨B4c _,x1b _ _⟩,by simp only [w2b,t7b];omega,by simp only;omega,fun p hp=>.inl hp⟩
  . rcases C4c.1 hx with hx | hx
    . exact h.es x hx
    rw [w8b.1 hx];exact hv
  . have:=h.kv p hp;simp only [w2b,t7b];omega
  have:=(h.ns q hq).2 k hk;simp only [w2b,t7b];omega
theorem e9a (f:Int->Cl->Int × Cl):∀ (l:List Int) (s:Cl),(mapS f l s).1.length=l.length
 | [],_=>rfl
 | _ :: r,_=>by simp [mapS,e9a f r]
structure ClTos (d:Dia) (s:Cl) (n:Nat) (xs:List Int) (s':Cl):Prop where
 ok:ClIn d s'
 le:ClLe s s'
 xs:∀ x ∈ xs,-(s'.ends.length:Int)<=x/\x < s'.nodes.length
 kd:∀ p ∈ s'.known,p ∈ s.known \/ p.1 < n
theorem B9b {d:Dia} {f:Int->Cl->Int × Cl} {n:Nat}:∀ (l:List Int) (s:Cl),(∀ k ∈ l,k < n /\ ∀ s,ClIn d s->ClTo d s k (f k s).1 (f k s).2)->ClIn d s->ClTos d s n (mapS f l s).1 (mapS f l s).2
 | [],s,_,h=>⟨h,ClLe.refl s,by simp [mapS],fun p hp=>.inl hp⟩
 | k :: r,s,hf,h=>by
  obtain ⟨hk,hfk⟩:=hf k (by simp);have T:=hfk s h;have R:=B9b r (f k s).2 (fun k hk=>hf k (by simp [hk])) T.ok;refine ⟨R.ok,T.le.trans R.le,fun x hx=>?_,fun p hp=>?_⟩
  . rcases E6c.1 hx with rfl | hx
    . have h1:=T.lo;have h2:=T.hi;have h3:=R.le.len;show -(((mapS f r (f k s).2).2.ends.length:Nat):Int)<=_/\_ < (((mapS f r (f k s).2).2.nodes.length:Nat):Int)
      omega
    exact R.xs x hx
  rcases R.kd p hp with hp | hp
  . rcases T.kd p hp with hp | hp
    . exact .inl hp
    exact .inr (by omega)
  exact .inr hp
theorem e9b {d:Dia} {s:Cl} {q:Int × List Int} (h:ClIn d s) (hq:∃ q' ∈ d.nodes,q.1=q'.1/\q.2.length=q'.2.length) (hk:∀ k ∈ q.2,-(s.ends.length:Int)<=k/\k < s.nodes.length) (h0:q.2 ≠ []) (ha:getI a s.known=none) (hal:a < d.nodes.length) :
    ClTo d s a (O3a q s).1 { (O3a q s).2 with known:=putI a (O3a q s).1 (O3a q s).2.known }:=by
  have hl:(putI a (O3a q s).1 s.known).length=s.known.length+1:=Hp.p0a h.up ha;have key:∀ (x:Int) (N:List (Int × List Int)),s.nodes <+: N->N.length<=s.nodes.length+1->(∀ q ∈ N,(∃ q' ∈ d.nodes,q.1=q'.1/\q.2.length=q'.2.length) /\ ∀ k ∈ q.2,-(s.ends.length:Int)<=k/\k < N.length) -> -(s.ends.length:Int)<=x->x < N.length->ClTo d s a x ⟨putI a x s.known,s.ends,N⟩:=by
   intro x N hp hN hns hx1 hx2;have hl:(putI a x s.known).length=s.known.length+1:=Hp.p0a h.up ha;have hn:=h.nn;have hlen:=hp.length_le;refine ⟨⟨h.nd,h.es,by simp only [hl];omega,M6a h.up,fun p hp=>?_,fun p hp=>?_,hns⟩,⟨hp,B4c _⟩,hx1,hx2,fun p hp=>?_⟩
   . rcases Q9a hp with rfl | hp
     . exact hal
     exact h.kn p hp
   . rcases Q9a hp with rfl | hp
     . exact ⟨hx1,hx2⟩
     have:=h.kv p hp;simp only;omega
   rcases Q9a hp with rfl | hp
   . exact .inr (by simp)
   exact .inl hp
  unfold O3a
  by_cases hf:flat q.2=true
  . rw [H5c hf];have hm:q.2.headD 0 ∈ q.2:=by
     obtain ⟨v,l⟩:=q
     cases l with
     | nil=>exact absurd rfl h0
     | cons k r=>simp
    have:=hk _ hm;exact key (q.2.headD 0) s.nodes (B4c _) (by omega) h.ns this.1 this.2
  rw [H4c hf]
  cases hi:s.nodes.idxOf? q with
  | some i=>
   have:=(p4b.1 hi).1;exact key (i:Int) s.nodes (B4c _) (by omega) h.ns (by omega) (by omega)
  | none=>
   refine key (s.nodes.length:Int) (s.nodes ++ [q]) (x1b _ _) (by simp) (fun p hp=>?_) (by omega) (by simp;omega)
   rcases C4c.1 hp with hp | hp
   . refine ⟨(h.ns p hp).1,fun k hk=>?_⟩;have:=(h.ns p hp).2 k hk;simp only [w2b,t7b];omega
   rw [w8b.1 hp];refine ⟨hq,fun k hk'=>?_⟩;have:=hk k hk';simp only [w2b,t7b];omega
theorem Dia.b3b {d:Dia} (h:i < d.ends.length):d.l7a i ∈ d.ends:=by
 unfold Dia.l7a
 rw [r1b h]
 exact A4c h
theorem Dia.T3b {d:Dia} (h:i < d.nodes.length):d.nodeAt i ∈ d.nodes:=by
 unfold Dia.nodeAt
 rw [r1b h]
 exact A4c h
theorem k5a {k:Nat} {x:Int}:∀ {M:List (Nat × Int)},J6a M->(k,x) ∈ M->getI k M=some x
 | [],_,h=>by cases h
 | (a,v) :: r,hu,h=>by
  obtain ⟨h1,h2⟩:=w3b.1 hu;unfold getI
  rcases E6c.1 h with e | h
  . cases e
    rw [H5c rfl]
  have:=h1 _ h;rw [H4c (by simp only at this;omega)];exact k5a h2 h
theorem g2a {d:Dia} (hL:d.Low) (h0:∀ q ∈ d.nodes,q.2 ≠ []):∀ (n:Nat) (r:Int) (s:Cl),d.Ref r n->n<=d.nodes.length->ClIn d s->ClTo d s r (d.C3a (n+1) r s).1 (d.C3a (n+1) r s).2
 | n,r,s,hr,hn,h=>by
  unfold Dia.C3a
  by_cases hneg:r < 0
  . rw [H5c hneg];exact j3b h (Dia.b3b (by have:=hr.2;omega))
  rw [H4c hneg];obtain ⟨a,rfl⟩:∃ a:Nat,r=(a:Int):=⟨r.toNat,by omega⟩
  rw [z5b];have han:a < n:=by have:=hr.1;omega
  cases hg:getI a s.known with
  | some x=>
   have:=h.kv _ (A2b hg);exact ⟨h,ClLe.refl s,this.1,this.2,fun p hp=>.inl hp⟩
  | none=>
   obtain ⟨m,rfl⟩:∃ m,n=m+1:=⟨n-1,by omega⟩
   have hq:=Dia.T3b (d:=d) (i:=a) (by omega);have T:=B9b (d:=d) (f:=d.C3a (m+1)) (n:=a) (d.nodeAt a).2 s (fun k hk=>by
    have hk:=hL a (by omega) k hk;exact ⟨hk.1,fun s hs=>g2a hL h0 m k s ⟨by have:=hk.1;omega,hk.2⟩ (by omega) hs⟩) h
   have hnone:getI a (mapS (d.C3a (m+1)) (d.nodeAt a).2 s).2.known=none:=by
    cases hx:getI a (mapS (d.C3a (m+1)) (d.nodeAt a).2 s).2.known with
    | none=>rfl
    | some y=>
     exfalso
     rcases T.kd _ (A2b hx) with hp | hp
     . have h1:getI a s.known ≠ none:=fun e=>by
         have:=k5a h.up hp;rw [e] at this
         cases this
       exact h1 hg
     simp at hp
   have F:=e9b (s:=(mapS (d.C3a (m+1)) (d.nodeAt a).2 s).2) (q:=((d.nodeAt a).1,(mapS (d.C3a (m+1)) (d.nodeAt a).2 s).1)) T.ok ⟨d.nodeAt a,hq,rfl,e9a _ _ _⟩ T.xs (fun e=>h0 _ hq (p8b (by rw [<- e9a (d.C3a (m+1)) (d.nodeAt a).2 s];simp only at e;rw [e];rfl))) hnone (by omega);exact ⟨F.ok,T.le.trans F.le,F.lo,F.hi,fun p hp=>by
    rcases F.kd p hp with hp | hp
    . rcases T.kd p hp with hp | hp
      . exact .inl hp
      exact .inr (by omega)
    . exact .inr hp⟩
end Nd
namespace Hp
theorem s3a {f g:Nat->Int} {z:List Int}:∀ {s n:Nat} {L L':List Tl},Lay s L n->Lay s L' n->Sep L->Sep L'->(∀ t ∈ L,t.fr=false->t.k=wz z (f t.a))->(∀ t ∈ L',t.fr=false->t.k=wz z (g t.a))->A6a L=A6a L'->(∀ a ∈ A6a L,f a=g a)->L=L'
 | s,n,[],L',h,h',_,_,_,_,_,_=>by
  have e:s=n:=h
  cases L' with
  | nil=>rfl
  | cons t r=>
   obtain ⟨_,h2,h3⟩:=h';have:=h3.le;omega
 | s,n,t :: r,[],h,h',_,_,_,_,_,_=>by
  have e:s=n:=h';obtain ⟨_,h2,h3⟩:=h;have:=h3.le;omega
 | s,n,t :: r,t' :: r',h,h',hs,hs',hk,hk',ha,hf=>by
  obtain ⟨e1,h2,h3⟩:=h;obtain ⟨e1',h2',h3'⟩:=h';have eqa:∀ (u:Tl) (q:List Tl),A6a (u :: q)=(if u.fr then [] else [u.a]) ++ A6a q:=fun u q=>by
   cases hf:u.fr <;> simp [A6a,hf]
  rw [eqa t r,eqa t' r'] at ha;rw [eqa t r] at hf;have lo:∀ a ∈ A6a r,s+t.k<=a:=fun a ha=>by
   obtain ⟨u,hu,_,rfl⟩:=B4a.1 ha;exact (h3.mem hu).1
  have lo':∀ a ∈ A6a r',s+t'.k<=a:=fun a ha=>by
   obtain ⟨u,hu,_,rfl⟩:=B4a.1 ha;exact (h3'.mem hu).1
  cases hb:t.fr with
  | false=>
   cases hb':t'.fr with
   | false=>
    simp only [hb,hb',x6b,H1c,t1b,D6c] at ha hf;have k1:=hk t (by simp) hb;have k2:=hk' t' (by simp) hb';have ft:=hf t.a (by simp);rw [ha.1] at ft k1;rw [ft,<- k2] at k1;rw [k1] at h3;have ih:=s3a h3 h3' hs.tail hs'.tail (fun u hu=>hk u (by simp [hu])) (fun u hu=>hk' u (by simp [hu])) ha.2 (fun a h=>hf a (by simp [h]));rw [ih]
    congr 1
    obtain ⟨a,k,fr⟩:=t;obtain ⟨a',k',fr'⟩:=t';simp only at *;subst hb hb' k1;rw [ha.1]
   | true=>
    simp only [hb,hb',x6b,H1c,H2c,t1b,C1c] at ha;have:=lo' t.a (by rw [<- ha];simp);omega
  | true=>
   cases hb':t'.fr with
   | false=>
    simp only [hb,hb',x6b,H1c,H2c,t1b,C1c] at ha;have:=lo t'.a (by rw [ha];simp);omega
   | true=>
    simp only [hb,hb',H2c,C1c] at ha hf;have key:t.k=t'.k:=by
     cases r with
     | nil=>
      have e:s+t.k=n:=h3
      cases r' with
      | nil=>
       have e':s+t'.k=n:=h3';omega
      | cons u' q'=>
       have hu:u'.fr=false:=by
        cases hq:u'.fr with
        | false=>rfl
        | true=>exact absurd ⟨hb',hq⟩ hs'.1
       rw [eqa u' q'] at ha;simp [hu,A6a] at ha
     | cons u q=>
      have hu:u.fr=false:=by
       cases hq:u.fr with
       | false=>rfl
       | true=>exact absurd ⟨hb,hq⟩ hs.1
      cases r' with
      | nil=>
       rw [eqa u q] at ha;simp [hu,A6a] at ha
      | cons u' q'=>
       have hu':u'.fr=false:=by
        cases hq:u'.fr with
        | false=>rfl
        | true=>exact absurd ⟨hb',hq⟩ hs'.1
       rw [eqa u q,eqa u' q'] at ha;simp only [hu,hu',x6b,H1c,t1b,D6c] at ha;have:=h3.1;have:=h3'.1;omega
    rw [key] at h3;have ih:=s3a h3 h3' hs.tail hs'.tail (fun u hu=>hk u (by simp [hu])) (fun u hu=>hk' u (by simp [hu])) ha hf;rw [ih]
    congr 1
    obtain ⟨a,k,fr⟩:=t;obtain ⟨a',k',fr'⟩:=t';simp only at *;subst hb hb' key;rw [e1,e1']
theorem N8a {f g:Nat->Int}:∀ {r:List Nat} {l l':Nat},Path f l r->Path g l' r->f l=g l' /\ ∀ a ∈ r,f (a+3)=g (a+3)
 | [],l,l',h,h'=>by
  have e:f l=0:=h;have e':g l'=0:=h';exact ⟨by omega,by simp⟩
 | b :: r,l,l',h,h'=>by
  obtain ⟨h1,_,h3⟩:=h;obtain ⟨h1',_,h3'⟩:=h';obtain ⟨k1,k2⟩:=N8a h3 h3';refine ⟨by omega,fun a ha=>?_⟩
  rcases E6c.1 ha with rfl | ha
  . exact k1
  exact k2 a ha
theorem Lay.cover:∀ {s n j:Nat} {L:List Tl},Lay s L n->s<=j->j < n -> ∃ t ∈ L,t.a<=j/\j < t.a+t.k
 | s,n,j,[],h,h1,h2=>by
  have e:s=n:=h;omega
 | s,n,j,t :: r,h,h1,h2=>by
  obtain ⟨e,hk,hr⟩:=h
  by_cases hj:j < s+t.k
  . exact ⟨t,by simp,by omega,by omega⟩
  obtain ⟨u,hu,k⟩:=hr.cover (by omega) h2;exact ⟨u,by simp [hu],k⟩
theorem i2b {f g:Nat->Int} {z:List Int} {a:Nat}:∀ {Src:List Nat},(∀ b ∈ Src,kz f z b=kz g z b)->cnt f z a Src=cnt g z a Src
 | [],_=>rfl
 | b :: r,h=>by
  unfold cnt;rw [h b (by simp),i2b fun c hc=>h c (by simp [hc])]
end Hp
namespace Hp
theorem S0a {v:Int} (h:i < W.length):ow (W.set i v) j=if j=i then v else ow W j:=by
 obtain ⟨W',h1,_,h3⟩:=J8a v h
 unfold wr at h1
 rw [H5c h] at h1
 cases h1
 exact h3 j
theorem A1a {v:Int} (h:i < W.length) (hn:j ≠ i):ow (W.set i v) j=ow W j:=by rw [S0a h,H4c hn]
theorem D8a {v:Int} (h:i < W.length):ow (W.set i v) i=v:=by rw [S0a h,H5c rfl]
def Loose (L:List Tl) (j:Nat):Prop:=j=16 \/ ∃ t ∈ L,t.fr=true/\t.a+2<=j/\j < t.a+t.k
structure Near (L:List Tl) (W V:List Int):Prop where
 len:W.length=V.length
 eq:∀ j,¬ Loose L j->ow W j=ow V j
structure I9a (L P:List Tl) (a:Nat) (W V:List Int):Prop extends Near L W V where
 done:∀ j,Loose L j->j < a->j ≠ B9a 16 P->ow W j=ow V j
structure X8a (L:List Tl) (t:Tl) (i:Nat) (W V:List Int):Prop extends Near L W V where
 done:∀ j,Loose L j->j < i->j ≠ t.a+2->ow W j=ow V j
section
variable {V:List Int} {z:List Int} {L P Q:List Tl} {n a:Nat} {W:List Int}
theorem e8a (hl:Lay 17 L n) {t:Tl} (ht:t ∈ L) (h:Loose L j) (h1:t.a<=j) (h2:j < t.a+t.k):t.fr=true/\t.a+2<=j:=by
 have m:=hl.mem ht
 rcases h with rfl | ⟨u,hu,hf,u1,u2⟩
 . omega
 rcases hl.sep ht hu with e | h | h
 . subst e;exact ⟨hf,u1⟩
 . omega
 omega
theorem Near.part (h:Near L W V) (hl:Lay 17 L n) {t:Tl} (ht:t ∈ L):ow W t.a=ow V t.a/\ow W (t.a+1)=ow V (t.a+1):=by
 have m:=hl.mem ht
 exact ⟨h.eq _ fun hj=>by have:=(e8a hl ht hj (by omega) (by omega)).2;omega,h.eq _ fun hj=>by have:=(e8a hl ht hj (by omega) (by omega)).2;omega⟩
theorem I9a.start (h:Near L W V) (hl:Lay 17 L n):I9a L [] 17 W V:=
 { h with
   done:=fun j hj h17 hne=>by
    rcases hj with rfl | ⟨u,hu,hf,u1,u2⟩
    . exact absurd rfl hne
    . have:=hl.mem hu;omega }
theorem I9a.cell (h:I9a L P a W V) (hl:Lay 17 L n) {t:Tl} (ht:t ∈ L) (ha:t.a=a) (hf:t.fr=false):I9a L (P ++ [t]) (a+t.k) W V:=
 { h.toNear with
   done:=fun j hj h1 hne=>by
    have e:B9a 16 (P ++ [t])=B9a 16 P:=by
     rw [T4a];simp [B9a,hf]
    rw [e] at hne
    by_cases hja:j < a
    . exact h.done j hj hja hne
    . have:=e8a hl ht hj (by omega) (by omega);rw [hf] at this
      cases this.1 }
theorem I9a.free (h:I9a L P a W V) {t:Tl} (hL:L=P ++ t :: Q) (hp:Parts (ow V) z L V.length) (ha:t.a=a) (hf:t.fr=true):B9a 16 P < W.length/\X8a L t (a+3) (W.set (B9a 16 P) (a:Int)) V:=by
 have ht:t ∈ L:=by rw [hL];simp
 have m:=hp.lay.mem ht
 have hlay:=hp.lay
 rw [hL] at hlay
 obtain ⟨q1,q2,q3⟩:=hlay.parts
 have g:=a2a q1 (show 16 < 17 by omega)
 have hlk:=hp.links
 rw [hL] at hlk
 have k2:=(B6a.app.1 hlk).2
 unfold B6a at k2
 rw [hf] at k2
 simp only [H2c] at k2
 have hlen:=h.len
 have hlt:B9a 16 P < W.length:=by omega
 have hloose:Loose L (B9a 16 P):=by
  rcases @U8a 16 P with e | ⟨u,hu,huf,e⟩
  . exact .inl e
  have:=q1.mem hu;exact .inr ⟨u,by rw [hL];simp [hu],huf,by omega,by omega⟩
 refine ⟨hlt,⟨⟨by simpa using hlen,fun j hj=>?_⟩,fun j hj h1 h2=>?_⟩⟩
 . have hne:j ≠ B9a 16 P:=fun e=>hj (by rw [e];exact hloose)
   rw [A1a hlt hne];exact h.eq j hj
 by_cases e:j=B9a 16 P
 . rw [e,D8a hlt,k2.1,ha]
 rw [A1a hlt e]
 by_cases hja:j < a
 . exact h.done j hj hja e
 have:=e8a hp.lay ht hj (by omega) (by omega)
 omega
theorem X8a.step {t:Tl} (h:X8a L t i W V) (hp:Parts (ow V) z L V.length) (ht:t ∈ L) (hf:t.fr=true) (h1:t.a+3<=i) (h2:i < t.a+t.k):i < W.length/\X8a L t (i+1) (W.set i 0) V:=by
 have m:=hp.lay.mem ht
 have hlen:=h.len
 have hlt:i < W.length:=by omega
 have hloose:Loose L i:=.inr ⟨t,ht,hf,by omega,by omega⟩
 refine ⟨hlt,⟨⟨by simpa using hlen,fun j hj=>?_⟩,fun j hj k1 k2=>?_⟩⟩
 . have hne:j ≠ i:=fun e=>hj (by rw [e];exact hloose)
   rw [A1a hlt hne];exact h.eq j hj
 by_cases e:j=i
 . rw [e,D8a hlt,((hp.ok t ht).free hf).2.2 i h1 h2]
 rw [A1a hlt e]
 exact h.done j hj (by omega) k2
theorem X8a.fin {t:Tl} (h:X8a L t (t.a+t.k) W V) (hf:t.fr=true):I9a L (P ++ [t]) (t.a+t.k) W V:=
 { h.toNear with
   done:=fun j hj h1 hne=>by
    have e:B9a 16 (P ++ [t])=t.a+2:=by
     rw [T4a];simp [B9a,hf]
    rw [e] at hne;exact h.done j hj h1 hne }
theorem I9a.finish (h:I9a L L V.length W V) (hp:Parts (ow V) z L V.length) (h20:17<=V.length):B9a 16 L < W.length/\W.set (B9a 16 L) 0=V:=by
 have hlen:=h.len
 have g:=a2a hp.lay (show 16 < 17 by omega)
 have hlk:=hp.links
 rw [show L=L ++ [] by simp] at hlk
 have k2:=(B6a.app.1 hlk).2
 have k2:ow V (B9a 16 L)=0:=k2
 have hlt:B9a 16 L < W.length:=by omega
 refine ⟨hlt,g7b (by simpa using hlen) fun j hj=>?_⟩
 by_cases e:j=B9a 16 L
 . rw [e,D8a hlt,k2]
 rw [A1a hlt e]
 by_cases hl:Loose L j
 . exact h.done j hl hj e
 exact h.eq j hl
end
theorem A5b {ch:Nat->List Nat} (h:Wf S B L ch) (hl:W.length=S.words.length) (hh:∀ c,c < 16->ow W c=ow S.words c)
    (hc:∀ a ∈ S.taken,∀ i,i < wz S.sizes (ow S.words a)->ow W (a+i)=ow S.words (a+i)) (hf:∀ t ∈ L,t.fr=true->ow W t.a=0/\ow W (t.a+1)=t.k):Near L W S.words:=by
  refine ⟨hl,fun j hj=>?_⟩
  by_cases h16:j < 16
  . exact hh j h16
  by_cases e16:j=16
  . exact absurd (.inl e16) hj
  by_cases hn:j < S.words.length
  . obtain ⟨t,htL,j1,j2⟩:=h.parts.lay.cover (j:=j) (by omega) hn
    cases hfr:t.fr with
    | true=>
     obtain ⟨a1,a2,_⟩:=(h.parts.ok t htL).free hfr;obtain ⟨b1,b2⟩:=hf t htL hfr
     by_cases e0:j=t.a
     . rw [e0,b1,a1]
     by_cases e1:j=t.a+1
     . rw [e1,b2,a2]
     exact absurd (.inr ⟨t,htL,hfr,by omega,j2⟩) hj
    | false=>
     have ha:t.a ∈ S.taken:=by
      rw [h.taken];exact B4a.2 ⟨t,htL,hfr,rfl⟩
     have hk:=((h.parts.ok t htL).cell hfr).2;have:=hc t.a ha (j-t.a) (by omega);rw [show t.a+(j-t.a)=j by omega] at this;exact this
  rw [g8b (by omega),g8b (by omega)]
end Hp
namespace Hp
structure Took (S:Hs) (a k wide:Nat) (W:List Int):Prop where
 len:W.length=S.words.length
 rest:wide < k->ow W (a+wide)=0/\ow W (a+wide+1)=(k:Int)-(wide:Int)
 other:∀ j,(j < a \/ a+k<=j)->ow W j=ow S.words j
structure P6a (S:Hs) (t:Int) (fs:List Int) (a k i:Nat) (W:List Int):Prop where
 len:W.length=S.words.length
 tag:ow W a=t
 one:ow W (a+1)=0
 two:ow W (a+2)=0
 three:ow W (a+3)=ow S.words (cz t fs)
 head:ow W (cz t fs)=(a:Int)
 fld:∀ j,j < i->ow W (a+4+j)=fs.getD j 0
 uses:∀ b ∈ S.taken,ow W (b+1)=ow S.words (b+1)+((((ksOf t fs).take i).count (b:Int):Nat):Int)
 rest:4+fs.length < k->ow W (a+(4+fs.length))=0/\ow W (a+(4+fs.length)+1)=(k:Int)-((4+fs.length:Nat):Int)
 other:∀ j,(j < a \/ a+k<=j)->j ≠ cz t fs->(∀ b ∈ S.taken,j ≠ b+1)->ow W j=ow S.words j
section
variable {S:Hs} {B:Nat} {L:List Tl} {ch:Nat->List Nat} {t:Int} {fs:List Int} {a k:Nat} {W:List Int}
theorem New.wide (h:Wf S B L ch) (hn:New S t fs):wz S.sizes t=4+fs.length/\1<=fs.length/\fs.length<=12:=by
 have h1:=S6a h.fr.toFr hn.tag
 have:=hn.len
 omega
theorem Fits.le {w:Nat} {u:Tl} (h:Fits w u):w<=u.k/\(w < u.k->w+3<=u.k):=by
 rcases h with h | h <;> omega
theorem Took.adding (h:Wf S B L ch) (hn:New S t fs) (hu:(⟨a,k,true⟩:Tl) ∈ L) (hk:Fits (4+fs.length) ⟨a,k,true⟩) (T:Took S a k (4+fs.length) W) :
    P6a S t fs a k 0 (((((W.set a t).set (a+1) 0).set (a+2) 0).set (a+3) (ow W (cz t fs))).set (cz t fs) (a:Int)):=by
  have hm:=h.parts.lay.mem hu;have hm1:17<=a:=hm.1;have hm2:a+k<=S.words.length:=hm.2.1;have hw:=hn.wide h;have hkk:=hk.le;have hk1:4+fs.length<=k:=hkk.1;have hk2:4+fs.length < k->4+fs.length+3<=k:=hkk.2
  have hc:=P0a t fs;have hl:=T.len;have e:∀ j,ow (((((W.set a t).set (a+1) 0).set (a+2) 0).set (a+3) (ow W (cz t fs))).set (cz t fs) (a:Int)) j=if j=cz t fs then (a:Int) else if j=a+3 then ow W (cz t fs) else if j=a+2 then 0 else if j=a+1 then 0 else if j=a then t else ow W j:=fun j=>by
   rw [S0a (by simp;omega),S0a (by simp;omega),S0a (by simp;omega),S0a (by simp;omega),S0a (by omega)]
  refine ⟨by simp;exact hl, ?_, ?_, ?_, ?_, ?_,fun j hj=>absurd hj (D0c _),fun b hb=>?_,fun hk3=>?_,fun j h1 h2 h3=>?_⟩
  . rw [e,H4c (by omega),H4c (by omega),H4c (by omega),H4c (by omega),H5c rfl]
  . rw [e,H4c (by omega),H4c (by omega),H4c (by omega),H5c rfl]
  . rw [e,H4c (by omega),H4c (by omega),H5c rfl]
  . rw [e,H4c (by omega),H5c rfl,T.other _ (by omega)]
  . rw [e,H5c rfl]
  . have hp:=h.part hb;have ha:b+wz S.sizes (ow S.words b)<=a \/ a+k<=b:=h.apart hb hu rfl;rw [e,H4c (by omega),H4c (by omega),H4c (by omega),H4c (by omega),H4c (by omega),T.other _ (by omega)];simp
  . have:=hk2 hk3;rw [e,H4c (by omega),H4c (by omega),H4c (by omega),H4c (by omega),H4c (by omega),e,H4c (by omega),H4c (by omega),H4c (by omega),H4c (by omega),H4c (by omega)];exact T.rest hk3
  rw [e,H4c h2,H4c (by omega),H4c (by omega),H4c (by omega),H4c (by omega),T.other _ h1]
theorem P6a.j5b (h:Wf S B L ch) (hn:New S t fs) (hu:(⟨a,k,true⟩:Tl) ∈ L) (hk:Fits (4+fs.length) ⟨a,k,true⟩) (hi:i < fs.length) (he:B1a t=true) (A:P6a S t fs a k i W) :
    a+4+i < W.length/\P6a S t fs a k (i+1) (W.set (a+4+i) (fs.getD i 0)):=by
  have hm:=h.parts.lay.mem hu;have hm1:17<=a:=hm.1;have hm2:a+k<=S.words.length:=hm.2.1;have hkk:=hk.le;have hk1:4+fs.length<=k:=hkk.1;have hc:=P0a t fs;have hl:=A.len;have hlt:a+4+i < W.length:=by omega
  refine ⟨hlt,by simpa using hl, ?_, ?_, ?_, ?_, ?_,fun j hj=>?_,fun b hb=>?_,fun hk3=>?_,fun j h1 h2 h3=>?_⟩
  . rw [A1a hlt (by omega)];exact A.tag
  . rw [A1a hlt (by omega)];exact A.one
  . rw [A1a hlt (by omega)];exact A.two
  . rw [A1a hlt (by omega)];exact A.three
  . rw [A1a hlt (by omega)];exact A.head
  . by_cases e:j=i
    . subst e;rw [D8a hlt]
    rw [A1a hlt (by omega)];exact A.fld j (by omega)
  . have hp:=h.part hb;have ha:b+wz S.sizes (ow S.words b)<=a \/ a+k<=b:=h.apart hb hu rfl;rw [A1a hlt (by omega),A.uses b hb];simp [ksOf,he]
  . rw [A1a hlt (by omega),A1a hlt (by omega)];exact A.rest hk3
  rw [A1a hlt (by omega)];exact A.other j h1 h2 h3
theorem P6a.Z8b (h:Wf S B L ch) (hn:New S t fs) (hu:(⟨a,k,true⟩:Tl) ∈ L) (hk:Fits (4+fs.length) ⟨a,k,true⟩) (hi:i < fs.length) (he:B1a t=false) (A:P6a S t fs a k i W) (hb:b ∈ S.taken) (hf:fs.getD i 0=(b:Int)) :
    a+4+i < W.length/\b+1 < W.length/\ow (W.set (a+4+i) (b:Int)) (b+1)=ow W (b+1)/\P6a S t fs a k (i+1) ((W.set (a+4+i) (b:Int)).set (b+1) (ow W (b+1)+1)):=by
  have hm:=h.parts.lay.mem hu;have hm1:17<=a:=hm.1;have hm2:a+k<=S.words.length:=hm.2.1;have hkk:=hk.le;have hk1:4+fs.length<=k:=hkk.1;have hk2:4+fs.length < k->4+fs.length+3<=k:=hkk.2
  have hc:=P0a t fs;have hl:=A.len;have hlt:a+4+i < W.length:=by omega
  have hpb:=h.part hb;have hab:b+wz S.sizes (ow S.words b)<=a \/ a+k<=b:=h.apart hb hu rfl;have hlb:b+1 < W.length:=by omega
  have hlb':b+1 < (W.set (a+4+i) (b:Int)).length:=by simpa using hlb
  have X:∀ j,j ≠ a+4+i->j ≠ b+1->ow ((W.set (a+4+i) (b:Int)).set (b+1) (ow W (b+1)+1)) j=ow W j:=fun j h1 h2=>by
   rw [A1a hlb' h2,A1a hlt h1]
  refine ⟨hlt,hlb,by rw [A1a hlt (by omega)],by simpa using hl, ?_, ?_, ?_, ?_, ?_,fun j hj=>?_,fun c hc'=>?_,fun hk3=>?_,fun j h1 h2 h3=>?_⟩
  . rw [X _ (by omega) (by omega)];exact A.tag
  . rw [X _ (by omega) (by omega)];exact A.one
  . rw [X _ (by omega) (by omega)];exact A.two
  . rw [X _ (by omega) (by omega)];exact A.three
  . rw [X _ (by omega) (by omega)];exact A.head
  . by_cases e:j=i
    . subst e;rw [A1a hlb' (by omega),D8a hlt,hf]
    rw [X _ (by omega) (by omega)];exact A.fld j (by omega)
  . have e1:ksOf t fs=fs:=by simp [ksOf,he]
    have hu':=A.uses c hc';rw [e1] at hu' ⊢;have hgi:fs[i]? = some (b:Int):=by
     rw [q1b,r1b hi] at hf;rw [r1b hi]
     simpa using hf
    have ec:(fs.take (i+1)).count (c:Int)=(fs.take i).count (c:Int)+(if b=c then 1 else 0):=by
     rw [y6b,hgi,z3b]
     congr 1
     by_cases e:b=c
     . subst e;simp
     have:((b:Int) == (c:Int))=false:=by simp;omega
     simp [C3c,this,e]
    rw [ec];have hpc:=h.part hc';have hac:c+wz S.sizes (ow S.words c)<=a \/ a+k<=c:=h.apart hc' hu rfl
    by_cases e:c=b
    . subst e;rw [D8a hlb',H5c rfl,hu']
      push_cast
      omega
    rw [X _ (by omega) (by omega),H4c (fun q=>e q.symm),hu'];simp
  . have:=hk2 hk3;rw [X _ (by omega) (by omega),X _ (by omega) (by omega)];exact A.rest hk3
  rw [X _ (by omega) (h3 b hb)];exact A.other j h1 h2 h3
theorem P6a.near {P Q:List Tl} (h:Wf S B (P ++ ⟨a,k,true⟩ :: Q) ch) (hn:New S t fs) (hk:Fits (4+fs.length) ⟨a,k,true⟩) (A:P6a S t fs a k fs.length W) (p:Put S S' t fs a)
    (h':Wf S' B (P ++ ⟨a,wz S.sizes t,false⟩ :: ((if k=wz S.sizes t then [] else [⟨a+wz S.sizes t,k-wz S.sizes t,true⟩]) ++ Q)) (fun c=>if c=cz t fs then a :: ch c else ch c)) :
    Near (P ++ ⟨a,wz S.sizes t,false⟩ :: ((if k=wz S.sizes t then [] else [⟨a+wz S.sizes t,k-wz S.sizes t,true⟩]) ++ Q)) W S'.words:=by
  have hu:(⟨a,k,true⟩:Tl) ∈ P ++ ⟨a,k,true⟩ :: Q:=by simp
  have hm:=h.parts.lay.mem hu;have hm1:17<=a:=hm.1;have hm2:a+k<=S.words.length:=hm.2.1;have hkk:=hk.le;have hk1:4+fs.length<=k:=hkk.1;have hk2:4+fs.length < k->4+fs.length+3<=k:=hkk.2
  have hw:=hn.wide h;have hc:=P0a t fs;have PS:∀ c,c < 16->(c=cz t fs \/ ow S'.words c=ow S.words c) /\ ∀ x ∈ ch c,ow S'.words (x+3)=ow S.words (x+3):=fun c hc16=>by
   have p1:=h'.chains.path c hc16;have p0:=h.chains.path c hc16
   by_cases e:c=cz t fs
   . simp only [H5c e] at p1;exact ⟨.inl e,(N8a p1.2.2 p0).2⟩
   simp only [H4c e] at p1;exact ⟨.inr (N8a p1 p0).1,(N8a p1 p0).2⟩
  have PA:ow S'.words (cz t fs)=(a:Int)/\ow S'.words (a+3)=ow S.words (cz t fs):=by
   have p1:=h'.chains.path _ hc;have p0:=h.chains.path _ hc;simp only [H2c] at p1;exact ⟨p1.1,(N8a p1.2.2 p0).1⟩
  have MB:∀ b,b ∈ S'.taken ↔ b=a \/ b ∈ S.taken:=fun b=>by rw [p.taken];exact mem_insert
  refine A5b h' (A.len.trans p.len.symm) (fun c hc16=>?_) (fun b hb i hi=>?_) (fun u hu hf=>?_)
  . by_cases e:c=cz t fs
    . rw [e,A.head,PA.1]
    rw [A.other c (by omega) e (fun b hb=>by have:=h.part hb;omega)]
    rcases (PS c hc16).1 with q | q
    . exact absurd q e
    exact q.symm
  . rw [p.sizes] at hi
    rcases (MB b).1 hb with rfl | hb0
    . rw [p.tag,hw.1] at hi
      by_cases i0:i=0
      . subst i0;rw [G0c,A.tag,p.tag]
      by_cases i1:i=1
      . subst i1;rw [A.one,p.one]
      by_cases i2:i=2
      . subst i2;rw [A.two,p.two]
      by_cases i3:i=3
      . subst i3;rw [A.three,PA.2]
      have e:=A.fld (i-4) (by omega);rw [show b+4+(i-4)=b+i by omega] at e;rw [e];have hfz:=p.fs;unfold fz at hfz;rw [p.tag,hw.1] at hfz;have hg:(cut (ow S'.words) (b+4) (4+fs.length-4))[i-4]? = some (ow S'.words (b+4+(i-4))):=I5a (by omega);rw [hfz,show b+4+(i-4)=b+i by omega] at hg;rw [q1b,hg];rfl
    have hp:=h.part hb0;have ha:b+wz S.sizes (ow S.words b)<=a \/ a+k<=b:=h.apart hb0 hu rfl;have et:=(p.old b hb0).1;rw [et] at hi;have far:∀ i,i < wz S.sizes (ow S.words b)->i ≠ 1->ow W (b+i)=ow S.words (b+i):=fun i hi h1=>A.other _ (by omega) (by omega) fun c hc'=>h.ne hb0 hc' hi (by have:=h.part hc';omega) (.inr h1)
    by_cases i0:i=0
    . subst i0;rw [far 0 (by omega) (by omega)];exact et.symm
    by_cases i1:i=1
    . subst i1;have u1:=h.uses b hb0;have u2:=h'.uses b hb;rw [p.sizes,p.taken,g0a (X2a p.new)] at u2;have u3:cnt (ow S'.words) S.sizes b (a :: S.taken)=(kz (ow S'.words) S.sizes a).count (b:Int)+cnt (ow S'.words) S.sizes b S.taken:=rfl;have u4:cnt (ow S'.words) S.sizes b S.taken=cnt (ow S.words) S.sizes b S.taken:=i2b fun c hc'=>p.old.kz_ hc'
      have u5:kz (ow S'.words) S.sizes a=ksOf t fs:=by
       unfold kz ksOf;rw [p.tag,p.fs]
      rw [u3,u4,u5] at u2;rw [A.uses b hb0,u2,u1];have:(ksOf t fs).take fs.length=ksOf t fs:=by
       apply s6b;unfold ksOf
       split <;> simp
      rw [this]
      push_cast
      omega
    by_cases i2:i=2
    . subst i2;rw [far 2 (by omega) (by omega),p.hold b hb0]
    by_cases i3:i=3
    . subst i3;rw [far 3 (by omega) (by omega)];exact ((PS _ (P0a _ _)).2 b ((h.chains.mem _ (P0a (ow S.words b) (fz (ow S.words) S.sizes b)) b).2 ⟨hb0,rfl⟩)).symm
    rw [far i hi i1];have:=(p.old b hb0).2 (i-4) (by omega);rw [show b+4+(i-4)=b+i by omega] at this;exact this.symm
  have hpar:=h.parts.lay.parts;have old:∀ v,v ∈ P ++ ⟨a,k,true⟩ :: Q->v.fr=true->(v.a+v.k<=a \/ a+k<=v.a)->ow W v.a=0/\ow W (v.a+1)=v.k:=fun v hv hvf hd=>by
   have mv:=h.parts.lay.mem hv;have ok:=(h.parts.ok v hv).free hvf;rw [A.other v.a (by omega) (by omega) (fun b hb=>?_),A.other (v.a+1) (by omega) (by omega) (fun b hb=>?_)]
   . exact ⟨ok.1,ok.2.1⟩
   . have:=h.apart hb hv hvf;have:=h.part hb;omega
   have:=h.apart hb hv hvf;have:=h.part hb;omega
  rw [C4c,E6c,C4c] at hu
  rcases hu with hu | rfl | hu | hu
  . exact old u (by simp [hu]) hf (.inl (hpar.1.mem hu).2.1)
  . cases hf
  . split at hu
    . cases hu
    rename_i hne;rw [w8b] at hu;subst hu;rw [hw.1] at hne ⊢;have:=A.rest (by omega);refine ⟨this.1,this.2.trans ?_⟩;show (k:Int)-((4+fs.length:Nat):Int)=((k-(4+fs.length):Nat):Int);omega
  exact old u (by simp [hu]) hf (.inr (hpar.2.2.mem hu).1)
end
end Hp
end Go.Proofs.YtdokmmhjmclmnaaGreat
