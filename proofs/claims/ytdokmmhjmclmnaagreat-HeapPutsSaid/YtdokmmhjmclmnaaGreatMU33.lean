/- Part 33 of a proof. -/
import Derived.Test.YtdokmmhjmclmnaaGreatMU19
set_option linter.unusedSimpArgs false
set_option linter.unusedVariables false
set_option linter.unusedSectionVars false
set_option linter.unnecessarySimpa false
set_option maxHeartbeats 8000000
set_option maxRecDepth 100000
namespace Go.Proofs.YtdokmmhjmclmnaaGreat
open Go.Proofs.Tryz
variable {W' w w' w0 wb:World} {B a b bx c ca cap ce cn f g i j k lb m n qc:Nat} {choice e t x:Int} {A W fs ks l o z:List Int} {D T Y:List Nat} {p p2 pa pe pn q:Option Addr} {d:Hd} {S S':Hp.Hs} {r:Rd} {L:List Hp.Tl} {M:List (Nat × Int)} {s:Hp.Sc}
namespace Hp
structure N3a (S:Hs) (P Q:List Tl) (a:Nat) (W:List Int):Prop where
 len:W.length=S.words.length
 lay1:Lay 17 P a
 lay2:Lay a Q S.words.length
 sep:Sep P
 gap:¬ (ltF P=true/\hdF Q=true)
 ads:A6a (P ++ Q)=S.taken
 free:∀ t ∈ P ++ Q,t.fr=true->ow W t.a=0/\ow W (t.a+1)=t.k
 cell:∀ t ∈ P ++ Q,t.fr=false->t.k=wz S.sizes (ow S.words t.a)
 heads:∀ c,c < 16->ow W c=ow S.words c
 cells:∀ b ∈ S.taken,∀ i,i < wz S.sizes (ow S.words b)->ow W (b+i)=ow S.words (b+i)
section
variable {S:Hs} {B:Nat} {L P Q:List Tl} {ch:Nat->List Nat} {a:Nat} {W:List Int}
theorem N3a.pass {t:Tl} (m:N3a S P (t :: Q) a W) (h:¬ (t.fr=true/\hdF Q=true)):N3a S (P ++ [t]) Q (a+t.k) W:=by
 obtain ⟨e,h1,h2⟩:=m.lay2
 have e2:(P ++ [t]) ++ Q=P ++ t :: Q:=by simp
 refine ⟨m.len,Lay.app.2 ⟨a,m.lay1,e,h1,rfl⟩,h2,Sep.app.2 ⟨m.sep,trivial, ?_⟩, ?_, ?_, ?_, ?_,m.heads,m.cells⟩
 . have:=m.gap
   simpa [hdF] using this
 . rw [I2b];exact h
 . rw [e2];exact m.ads
 . rw [e2];exact m.free
 rw [e2];exact m.cell
theorem N3a.join (h:Wf S B L ch) {t u:Tl} (m:N3a S P (t :: u :: Q) a W) (ht:t.fr=true) (hu:u.fr=true):a+1 < W.length/\ow W (a+1)=t.k/\ow W (a+t.k)=0/\ow W (a+t.k+1)=u.k/\N3a S P (⟨a,t.k+u.k,true⟩ :: Q) a (W.set (a+1) ((t.k:Int)+(u.k:Int))):=by
 obtain ⟨e,h1,e',h1',h2⟩:=m.lay2
 have h2l:=h2.le
 have hlo:=m.lay1.le
 have hlen:=m.len
 have hlt:a+1 < W.length:=by omega
 have ft:=m.free t (by simp) ht
 have fu:=m.free u (by simp) hu
 rw [e] at ft
 rw [e'] at fu
 have hads:A6a (P ++ t :: u :: Q)=A6a (P ++ ⟨a,t.k+u.k,true⟩ :: Q):=by
  rw [D2a,D2a]
  congr 1
  simp [A6a,ht,hu]
 -- no cell has the word a+1
 have hcell:∀ b ∈ S.taken,∃ v ∈ P ++ t :: u :: Q,v.fr=false/\v.a=b/\(v.a+v.k<=a \/ a+t.k+u.k<=v.a):=fun b hb=>by
  rw [<- m.ads] at hb;obtain ⟨v,hv,hvf,hva⟩:=B4a.1 hb;refine ⟨v,hv,hvf,hva, ?_⟩;rw [C4c,E6c,E6c] at hv
  rcases hv with hv | rfl | rfl | hv
  . exact .inl (m.lay1.mem hv).2.1
  . rw [ht] at hvf;cases hvf
  . rw [hu] at hvf;cases hvf
  exact .inr (h2.mem hv).1
 refine ⟨hlt,ft.2,fu.1,fu.2,by simpa using hlen,m.lay1,⟨rfl,by show 3<=t.k+u.k;omega,by show Lay (a+(t.k+u.k)) Q _;rw [<- F0c];exact h2⟩,m.sep, ?_,by rw [<- hads];exact m.ads,fun v hv hvf=>?_,fun v hv hvf=>?_,fun c hc=>?_,fun b hb i hi=>?_⟩
 . have:=m.gap
   simpa [hdF,ht] using this
 . rw [C4c,E6c] at hv
   rcases hv with hv | rfl | hv
   . have q:=m.lay1.mem hv;rw [A1a hlt (by omega),A1a hlt (by omega)];exact m.free v (by simp [hv]) hvf
   . show ow (W.set (a+1) _) a=0/\ow (W.set (a+1) _) (a+1)=((t.k+u.k:Nat):Int)
     rw [A1a hlt (by omega),D8a hlt];exact ⟨ft.1,by push_cast;rfl⟩
   have q:=h2.mem hv;rw [A1a hlt (by omega),A1a hlt (by omega)];exact m.free v (by simp [hv]) hvf
 . rw [C4c,E6c] at hv
   rcases hv with hv | rfl | hv
   . exact m.cell v (by simp [hv]) hvf
   . cases hvf
   exact m.cell v (by simp [hv]) hvf
 . rw [A1a hlt (by omega)];exact m.heads c hc
 obtain ⟨v,hv,hvf,hva,hd⟩:=hcell b hb
 have hk:=m.cell v hv hvf
 rw [hva] at hk hd
 rw [A1a hlt (by omega)]
 exact m.cells b hb i hi
theorem N3a.near (h:Wf S B L ch) (m:N3a S P [] a W):a=S.words.length/\P=L/\Near L W S.words:=by
 have ea:a=S.words.length:=m.lay2
 have hl:=m.lay1
 rw [ea] at hl
 have hads:A6a P=S.taken:=by simpa using m.ads
 have eL:P=L:=s3a (f:=ow S.words) (g:=ow S.words) (z:=S.sizes) hl h.parts.lay m.sep h.parts.sep (fun t ht hf=>m.cell t (by simp [ht]) hf) (fun t ht hf=>((h.parts.ok t ht).cell hf).2) (by rw [hads,h.taken]) (fun _ _=>rfl)
 refine ⟨ea,eL,A5b h m.len m.heads m.cells fun t ht hf=>m.free t (by simp [eL,ht]) hf⟩
end
def mk (D:List Nat) (t:Tl):Tl:={ t with fr:=t.fr || D.contains t.a }
theorem i3b (D:List Nat):∀ {s n:Nat} {L:List Tl},Lay s L n->Lay s (L.map (mk D)) n
 | _,_,[],h=>h
 | _,_,t :: r,h=>⟨h.1,h.2.1,i3b D h.2.2⟩
theorem f8b (D:List Nat):∀ L:List Tl,A6a (L.map (mk D))=(A6a L).filter fun a=>!D.contains a
 | []=>rfl
 | t :: r=>by
  have ih:=f8b D r;unfold A6a at ih ⊢;rw [E7c,B3c,B3c]
  cases hf:t.fr with
  | true=>simpa [mk,hf] using ih
  | false=>
   by_cases hd:D.contains t.a=true
   . simp only [mk,hf,hd,F3c,F2c,x6b,H1c,E2c,H2c,E7c,B3c] at ih ⊢;exact ih
   have hd:D.contains t.a=false:=by simpa using hd
   simp only [mk,hf,hd,F3c,E2c,H2c,E7c,B3c] at ih ⊢;rw [ih]
structure T3a (S:Hs) (W2:List Int) (D:List Nat) (W:List Int):Prop where
 len:W.length=W2.length
 dead:∀ b ∈ D,ow W b=0/\ow W (b+1)=wz S.sizes (ow S.words b)
 other:∀ j,(∀ b ∈ D,j ≠ b/\j ≠ b+1)->ow W j=ow W2 j
theorem T3a.start (S:Hs) (W2:List Int):T3a S W2 [] W2:=⟨rfl,by simp,fun _ _=>rfl⟩
theorem T3a.step {W2:List Int} (h:T3a S W2 D W) (hlt:b+1 < W2.length) (hD:∀ c ∈ D,c ≠ b/\c+1 ≠ b/\c ≠ b+1):T3a S W2 (D ++ [b]) ((W.set b 0).set (b+1) (wz S.sizes (ow S.words b):Nat)):=by
 have hl:=h.len
 have h1:b < W.length:=by omega
 have h2:b+1 < (W.set b 0).length:=by simp;omega
 refine ⟨by simpa using hl,fun c hc=>?_,fun j hj=>?_⟩
 . rcases C4c.1 hc with hc | hc
   . have:=hD c hc;rw [A1a h2 (by omega),A1a h1 (by omega),A1a h2 (by omega),A1a h1 (by omega)];exact h.dead c hc
   have:c=b:=by simpa using hc
   subst this;rw [A1a h2 (by omega),D8a h1,D8a h2];exact ⟨rfl,rfl⟩
 have:=hj b (by simp)
 rw [A1a h2 this.2,A1a h1 this.1]
 exact h.other j fun c hc=>hj c (by simp [hc])
structure Mid (S:Hs) (ch:Nat->List Nat) (T:List Nat) (W1 W2:List Int) (S3:Hs):Prop where
 un:Hs.J9a T S.fuel S.words (List.range 16)=some W1
 l1:W1.length=S.words.length
 path:∀ c,c < 16->Path (ow W1) c ((ch c).filter T.contains)
 k1:∀ b ∈ S.taken,∀ i,i < wz S.sizes (ow S.words b)->i ≠ 3->ow W1 (b+i)=ow S.words (b+i)
 us:Hs.j4a { S with words:=W1 } (S.taken.filter fun a=>!T.contains a)=some { S with words:=W2 }
 l2:W2.length=S.words.length
 k2:∀ b ∈ S.taken,∀ i,i < wz S.sizes (ow S.words b)->i ≠ 1->i ≠ 3->ow W2 (b+i)=ow S.words (b+i)
 fre:∀ j,16 < j->(∀ b ∈ S.taken,j < b \/ b+wz S.sizes (ow S.words b)<=j)->ow W2 j=ow S.words j
 co:S.collect=some ((S.taken.filter fun a=>!T.contains a).length,S3)
 coll:Coll S S3 T
 heads:∀ j,j < 16->ow S3.words j=ow W2 j
 k3:∀ b ∈ S3.taken,∀ i,i < wz S.sizes (ow S.words b)->ow S3.words (b+i)=ow W2 (b+i)
 v3:∀ j,(∀ b ∈ S.taken,j ≠ b+1)->ow W2 j=ow W1 j
 v4:∀ b ∈ S.taken,ow W2 (b+1)=ow W1 (b+1)-cnt (ow S.words) S.sizes b (S.taken.filter fun a=>!T.contains a)
theorem C8b {ch:Nat->List Nat} (h:Wf S B L ch) (hT:S.live=some T):∃ W1 W2 S3 L3,Mid S ch T W1 W2 S3/\Wf S3 B L3 (fun c=>(ch c).filter T.contains):=by
 obtain ⟨S',L',hco,hcoll,hwf⟩:=M7a h hT
 obtain ⟨T',hT',t1,t2,t3,t4,_⟩:=h.J8b
 rw [hT] at hT'
 cases hT'
 have hlo:=h.lo
 have hhi:=h.hi
 have hm16:∀ c,c < 16 -> ∀ a ∈ ch c,a ∈ S.taken:=fun c hc a ha=>((h.chains.mem c hc a).1 ha).1
 obtain ⟨W1,u1,u2,u3,u4⟩:=S7a T S.fuel (fun c=>if c < 16 then ch c else []) (fun c c' a ha ha'=>by
  split at ha
  . rename_i hc
    split at ha'
    . rename_i hc';exact ((h.chains.mem c hc a).1 ha).2.symm.trans ((h.chains.mem c' hc' a).1 ha').2
    cases ha'
  . cases ha) (fun c hc=>by simp only [H5c hc];exact h.chains.nodup c hc) (List.range 16) S.words List.nodup_range (by omega) (fun c hc=>by
  have hc:c < 16:=by simpa using hc
  simp only [H5c hc];refine ⟨hc,h.chains.path c hc, ?_,fun a ha=>?_⟩
  . have:=C4a (h.chains.nodup c hc) (hm16 c hc);have:=h.few;unfold Hs.fuel;omega
  . have:=h.part (hm16 c hc a ha);omega)
 have u4':∀ j,16<=j->(∀ a ∈ S.taken,j ≠ a+3)->ow W1 j=ow S.words j:=fun j hj hn=>u4 j fun c hc=>by
  have hc:c < 16:=by simpa using hc
  simp only [H5c hc];exact ⟨by omega,fun a ha=>hn a (hm16 c hc a ha)⟩
 have U:∀ b ∈ S.taken,∀ i,i < wz S.sizes (ow S.words b)->i ≠ 3->ow W1 (b+i)=ow S.words (b+i):=fun b hb i hi h3=>by
  have:=h.part hb;exact u4' _ (by omega) fun a ha=>h.ne hb ha hi (by have:=h.part ha;omega) (.inr h3)
 have US:Same (ow S.words) (ow W1) S.sizes S.taken:=fun b hb=>by
  have:=h.part hb;refine ⟨by simpa using U b hb 0 (by omega) (by omega),fun i hi=>?_⟩;have:=U b hb (4+i) (by omega) (by omega);rw [<- F0c] at this;exact this
 generalize hD:S.taken.filter (fun a=>!T.contains a)=D at *
 have mD:∀ a,a ∈ D ↔ a ∈ S.taken/\a ∉ T:=fun a=>by rw [<- hD];simp
 obtain ⟨W2,v1,v2,v3,v4⟩:=b1a h D W1 (fun a ha=>((mD a).1 ha).1) u2 US (fun b hb=>by
  have h1:=h.h7a hb;have h2:=Q5a (f:=ow S.words) (z:=S.sizes) (fun a=>!T.contains a) S.taken;rw [hD] at h2;have h3:=h.Q4a;rw [U b hb 1 (by have:=h.part hb;omega) (by omega)];omega)
 have V:∀ b ∈ S.taken,∀ i,i < wz S.sizes (ow S.words b)->i ≠ 1->ow W2 (b+i)=ow W1 (b+i):=fun b hb i hi h1=>v3 _ fun c hc=>h.ne hb hc hi (by have:=h.part hc;omega) (.inr h1)
 have F0:∀ j,16 < j->(∀ b ∈ S.taken,j < b \/ b+wz S.sizes (ow S.words b)<=j)->ow W2 j=ow S.words j:=fun j hj hn=>by
  rw [v3 j fun b hb=>?_,u4' j (by omega) fun b hb=>?_]
  . have:=hn b hb;have:=h.part hb;omega
  have:=hn b hb;have:=h.part hb;omega
 have FRE:∀ t ∈ L,t.fr=true -> ∀ j,t.a<=j->j < t.a+t.k->ow W2 j=ow S.words j:=fun t ht hf j h1 h2=>by
  have hm:=h.parts.lay.mem ht;exact F0 j (by omega) fun b hb=>by have:=h.apart hb ht hf;omega
 have P2:Parts (ow W2) S.sizes L S.words.length:=by
  refine h.parts.congr ?_ (fun t ht=>?_) FRE
  . rw [v3 _ fun b hb=>by have:=h.part hb;omega,u4' _ (by omega) fun b hb=>by have:=h.part hb;omega]
  cases hf:t.fr with
  | true=>exact FRE t ht hf _ (H0c _) (by have:=h.parts.lay.mem ht;omega)
  | false=>
   have hb:t.a ∈ S.taken:=by rw [h.taken];exact B4a.2 ⟨t,ht,hf,rfl⟩
   have hp:=h.part hb;have e1:=V t.a hb 0 (by omega) (by omega);have e2:=U t.a hb 0 (by omega) (by omega);simp only [G0c] at e1 e2;rw [e1,e2]
 obtain ⟨S3,L3,w1,w2,w3,w4,w5,w6,w7,w8,w9⟩:=n9a D { S with words:=W2 } L h.fr.toFr (by show W2.length<=_;omega) (by show Parts (ow W2) S.sizes L W2.length;rw [v2];exact P2) (fun a ha=>by rw [<- h.taken];exact ((mD a).1 ha).1) (by rw [<- hD];exact (K7a h.up).filter _) (K7a h.up)
 have w8:∀ j,j < 16->ow S3.words j=ow W2 j:=w8
 have w9:∀ t ∈ L,t.fr=false->t.a ∉ D -> ∀ j,t.a<=j->j < t.a+t.k->ow S3.words j=ow W2 j:=w9
 have hu:S.unlink T=some { S with words:=W1 }:=by
  unfold Hs.unlink;rw [u1];rfl
 have co:S.collect=some (D.length,S3):=by
  unfold Hs.collect;rw [hT];simp only [v9b,B5c,hu];rw [hD,v1];simp only [B5c,w1]
 rw [hco] at co
 have eS:S'=S3:=by simpa using co
 subst eS
 have m3:∀ b,b ∈ S'.taken ↔ b ∈ S.taken/\b ∈ T:=fun b=>by rw [hcoll.taken];simp
 have K:∀ b ∈ S'.taken,∀ i,i < wz S.sizes (ow S.words b)->ow S'.words (b+i)=ow W2 (b+i):=fun b hb i hi=>by
  obtain ⟨h1,h2⟩:=(m3 b).1 hb;exact w9 _ (h.part h1).1 rfl (fun hm=>((mD b).1 hm).2 h2) _ (by simp) (by simpa using hi)
 refine ⟨W1,W2,S',L',⟨u1,u2,fun c hc=>?_,U,by rw [hD];exact v1,v2,fun b hb i hi h1 h3=>by rw [V b hb i hi h1,U b hb i hi h3],F0,by rw [hD];exact hco,hcoll,w8,K,v3,by rw [hD];exact v4⟩,hwf⟩
 have:=u3 c (by simpa using hc)
 simp only [H5c hc] at this
 exact this
theorem j8a {S3:Hs} {ch:Nat->List Nat} {W1 W2:List Int} (h:Wf S B L ch) (m:Mid S ch T W1 W2 S3) (k:T3a S W2 (S.taken.filter fun a=>!T.contains a) W) :
    N3a S3 [] (L.map (mk (S.taken.filter fun a=>!T.contains a))) 17 W:=by
  have c:=m.coll;generalize hD:S.taken.filter (fun a=>!T.contains a)=D at *;have mD:∀ a,a ∈ D ↔ a ∈ S.taken/\a ∉ T:=fun a=>by rw [<- hD];simp
  have m3:∀ b,b ∈ S3.taken ↔ b ∈ S.taken/\b ∈ T:=fun b=>by rw [c.taken];simp
  have wide:∀ b ∈ S3.taken,wz S3.sizes (ow S3.words b)=wz S.sizes (ow S.words b):=fun b hb=>by rw [c.sizes,(c.old b hb).1]
  refine ⟨k.len.trans (m.l2.trans c.len.symm),rfl,by rw [c.len];exact i3b D h.parts.lay,trivial,by simp [ltF], ?_,fun t ht hf=>?_,fun t ht hf=>?_,fun x hx=>?_,fun b hb i hi=>?_⟩
  . rw [C1c,f8b,<- h.taken,c.taken];apply y4b;intro b hb;rw [D5c];simp [mD,hb]
  . rw [C1c,F7c] at ht;obtain ⟨u,hu,rfl⟩:=ht;show ow W u.a=0/\ow W (u.a+1)=(u.k:Int)
    have mu:=h.parts.lay.mem hu
    cases huf:u.fr with
    | true=>
     have ok:=(h.parts.ok u hu).free huf;have far:∀ b ∈ D,u.a ≠ b/\u.a ≠ b+1/\u.a+1 ≠ b/\u.a+1 ≠ b+1:=fun b hb=>by
      have hb:=((mD b).1 hb).1;have:=h.apart hb hu huf;have:=h.part hb;omega
     rw [k.other _ fun b hb=>⟨(far b hb).1,(far b hb).2.1⟩,k.other _ fun b hb=>⟨(far b hb).2.2.1,(far b hb).2.2.2⟩];rw [m.fre _ (by omega) fun b hb=>by have:=h.apart hb hu huf;omega,m.fre _ (by omega) fun b hb=>by have:=h.apart hb hu huf;omega];exact ⟨ok.1,ok.2.1⟩
    | false=>
     have hd:D.contains u.a=true:=by simpa [mk,huf] using hf
     have:=k.dead u.a (by simpa using hd);rw [((h.parts.ok u hu).cell huf).2];exact this
  . rw [C1c,F7c] at ht;obtain ⟨u,hu,rfl⟩:=ht;have hf':u.fr=false/\D.contains u.a=false:=by simpa [mk] using hf
    have hb:u.a ∈ S.taken:=by rw [h.taken];exact B4a.2 ⟨u,hu,hf'.1,rfl⟩
    have hb3:u.a ∈ S3.taken:=(m3 _).2 ⟨hb,by
     have:u.a ∉ D:=by simpa using hf'.2
     rw [mD] at this;exact r0b fun q=>this ⟨hb,q⟩⟩
    show u.k=wz S3.sizes (ow S3.words u.a);rw [wide _ hb3];exact ((h.parts.ok u hu).cell hf'.1).2
  . rw [m.heads x hx];exact k.other x fun b hb=>by
     have:=h.part ((mD b).1 hb).1;omega
  rw [wide b hb] at hi;obtain ⟨hb1,hb2⟩:=(m3 b).1 hb;rw [m.k3 b hb i hi];refine k.other _ fun c' hc'=>?_
  obtain ⟨q1,q2⟩:=(mD c').1 hc';have hne:b ≠ c':=fun e=>q2 (e ▸ hb2)
  have h0:=h.ne (i:=i) (j:=0) hb1 q1 hi (by have:=h.part q1;omega) (.inl hne);have h1:=h.ne (i:=i) (j:=1) hb1 q1 hi (by have:=h.part q1;omega) (.inl hne);exact ⟨by simpa using h0,h1⟩
end Hp
namespace Hp
def k0b (S:Hs) (Y:List Nat) (a:Nat):Prop:=∃ y ∈ Y,(a:Int) ∈ kz (ow S.words) S.sizes y
def n8b (S:Hs) (Y:List Nat) (a:Nat):Prop:=0 < ow S.words (a+2) \/ k0b S Y a
structure L5a (S:Hs) (T Y:List Nat):Prop where
 nodup:Y.Nodup
 sub:∀ y ∈ Y,y ∈ T
def z2a (S:Hs) (Y:List Nat) (i:Nat):Prop:=∀ k a,k < i->S.taken[k]? = some a->n8b S Y a->a ∈ Y
section
variable {S:Hs} {B:Nat} {L:List Tl} {ch:Nat->List Nat} {T Y:List Nat}
theorem L5a.start (S:Hs) (T:List Nat):L5a S T []:=⟨List.nodup_nil,by simp⟩
theorem V2b (h:Wf S B L ch) (hT:S.live=some T):(∀ a ∈ T,a ∈ S.taken)/\T.Pairwise (· < ·):=by
 obtain ⟨T',hT',t1,t2,_⟩:=h.J8b
 rw [hT] at hT'
 cases hT'
 exact ⟨t2,t1⟩
theorem L5a.add (h:Wf S B L ch) (hT:S.live=some T) (F:L5a S T Y) (ha:a ∈ S.taken) (hn:a ∉ Y) (hw:n8b S Y a):L5a S T (Y ++ [a]):=by
 obtain ⟨T',hT',t1,t2,t3,t4,_⟩:=h.J8b
 rw [hT] at hT'
 cases hT'
 refine ⟨y8b.2 ⟨F.nodup,by simp,fun x hx y hy=>?_⟩,fun y hy=>?_⟩
 . have:y=a:=by simpa using hy
   subst this;exact fun e=>hn (e ▸ hx)
 rcases C4c.1 hy with hy | hy
 . exact F.sub y hy
 have:y=a:=by simpa using hy
 subst this
 rcases hw with hw | ⟨z,hz,hk⟩
 . exact t3 y ha hw
 exact t4 z (F.sub z hz) y hk
theorem L5a.len (h:Wf S B L ch) (hT:S.live=some T) (F:L5a S T Y):Y.length<=T.length/\Y.length<=S.taken.length:=by
 have h1:=C4a F.nodup F.sub
 have h2:=C4a F.nodup fun y hy=>(V2b h hT).1 y (F.sub y hy)
 exact ⟨h1,h2⟩
theorem L5a.fin (h:Wf S B L ch) (hT:S.live=some T) (F:L5a S T Y) (hs:z2a S Y S.taken.length):(∀ a,a ∈ Y ↔ a ∈ T)/\Y.length=T.length:=by
 obtain ⟨T',hT',t1,t2,t3,t4,t5⟩:=h.J8b
 rw [hT] at hT'
 cases hT'
 have shut:∀ a ∈ S.taken,n8b S Y a->a ∈ Y:=fun a ha hw=>by
  obtain ⟨k,hk,e⟩:=u9b ha;exact hs k a hk (by rw [r1b hk,e]) hw
 have sup:∀ a ∈ T,a ∈ Y:=t5 Y (fun a ha hp=>shut a ha (.inl hp)) fun a ha b hb=>by
  obtain ⟨b',hb',e,_⟩:=h.cells.kids a (t2 a (F.sub a ha)) _ hb;have:b=b':=by omega
  subst this;exact shut b hb' (.inr ⟨a,ha,hb⟩)
 refine ⟨fun a=>⟨F.sub a,sup a⟩, ?_⟩
 have:=C4a F.nodup F.sub
 have:=C4a (K7a t1) sup
 omega
def K9a (Y:List Nat):List Int:=Y.map fun a:Nat=>(a:Int)
theorem w3a:(a:Int) ∈ K9a Y ↔ a ∈ Y:=by
 unfold K9a
 rw [F7c]
 constructor
 . rintro ⟨b,hb,e⟩;have:b=a:=by omega
   exact this ▸ hb
 exact fun h=>⟨a,h,rfl⟩
theorem P1a:(K9a Y).contains (a:Int)=Y.contains a:=by
 rw [D5c]
 simp only [t3b]
 exact w3a
theorem C1a (Y:List Nat):(K9a Y).length=Y.length:=by simp [K9a]
theorem g8a (Y Z:List Nat):K9a (Y ++ Z)=K9a Y ++ K9a Z:=by simp [K9a]
theorem p6a (h:Y[j]? = some a):rd (K9a Y) j=some (a:Int):=by
 simp [rd,K9a,h]
theorem P6b (h:x ∈ K9a Y):∃ a ∈ Y,x=(a:Int):=by
 unfold K9a at h
 rw [F7c] at h
 obtain ⟨a,ha,e⟩:=h
 exact ⟨a,ha,e.symm⟩
end
end Hp
namespace Hp
theorem y2a {S:Hs} {m:Nat->Nat} {a:Nat}:∀ {d:List Nat} {cc:Nat->List Nat} {c:Nat},ccOf S m (d ++ [a]) cc c=if c=cz (ow S.words a) (nz (ow S.words) S.sizes m a) then m a :: ccOf S m d cc c else ccOf S m d cc c
 | [],cc,c=>rfl
 | b :: d,cc,c=>by
  rw [A6c];unfold ccOf;exact y2a
theorem H2b {S:Hs} {m:Nat->Nat} {x c:Nat}:∀ {d:List Nat} {cc:Nat->List Nat},x ∈ ccOf S m d cc c->x ∈ cc c \/ ∃ b ∈ d,x=m b
 | [],cc,h=>.inl h
 | b :: d,cc,h=>by
  unfold ccOf at h
  rcases H2b h with h | ⟨b',hb',e⟩
  . split at h
    . rcases E6c.1 h with rfl | h
      . exact .inr ⟨b,by simp,rfl⟩
      exact .inl h
    exact .inl h
  exact .inr ⟨b',by simp [hb'],e⟩
theorem E9b {f:Nat->Int} {z:List Int}:∀ {T:List Nat} {s i a:Nat},T.Nodup->T[i]? = some a->place f z s T a=s+widths f z (T.take i)
 | [],_,_,_,_,h=>by simp at h
 | b :: T,s,0,a,_,h=>by
  have:b=a:=by simpa using h
  subst this;simp [place,widths]
 | b :: T,s,i+1,a,hn,h=>by
  have h':T[i]? = some a:=by simpa using h
  have hne:b ≠ a:=fun e=>(C2c.1 hn).1 (e ▸ u1b h')
  have ih:=E9b (f:=f) (z:=z) (s:=s+wz z (f b)) (C2c.1 hn).2 h';rw [v1b];unfold place widths;rw [H4c (by omega),ih];omega
structure N2a (S:Hs) (m:Nat->Nat) (i:Nat) (V:List Int):Prop where
 len:V.length=S.words.length
 done:∀ b ∈ S.taken.take i,ow V (m b)=ow S.words b/\ow V (m b+1)=ow S.words (b+1)/\ow V (m b+2)=ow S.words (b+2) /\ ∀ k,k < wz S.sizes (ow S.words b)-4->ow V (m b+4+k)=(nz (ow S.words) S.sizes m b).getD k 0
 path:∀ c,c < 16->Path (ow V) c (ccOf S m (S.taken.take i) (fun _=>[]) c)
 rest:∀ j,j=16 \/ 17<=j/\(∀ b ∈ S.taken.take i,j < m b \/ m b+wz S.sizes (ow S.words b)<=j)->ow V j=0
structure I3a (S:Hs) (m:Nat->Nat) (a:Nat) (V0:List Int) (k:Nat) (V:List Int):Prop where
 len:V.length=S.words.length
 three:ow V (m a)=ow S.words a/\ow V (m a+1)=ow S.words (a+1)/\ow V (m a+2)=ow S.words (a+2)
 fld:∀ j,j < k->ow V (m a+4+j)=(nz (ow S.words) S.sizes m a).getD j 0
 other:∀ j,(j < m a \/ m a+wz S.sizes (ow S.words a)<=j)->ow V j=ow V0 j
theorem Y6b (f:Nat->Int) (z:List Int) (m:Nat->Nat) (a:Nat):(nz f z m a).length=wz z (f a)-4:=by
 unfold nz
 split <;> simp [D7a]
section
variable {S:Hs} {B:Nat} {L:List Tl} {ch:Nat->List Nat} {m:Nat->Nat} {next i a:Nat} {V V0:List Int}
structure Goes (S:Hs) (m:Nat->Nat) (next:Nat):Prop where
 top:next<=S.words.length
 rng:∀ b ∈ S.taken,17<=m b/\m b+wz S.sizes (ow S.words b)<=next
 up:∀ a ∈ S.taken,∀ b ∈ S.taken,a < b->m a+wz S.sizes (ow S.words a)<=m b
theorem O4b (h:Wf S B L ch):Goes S (place (ow S.words) S.sizes 17 S.taken) (17+widths (ow S.words) S.sizes S.taken):=by
 have:=h.Q4a
 exact ⟨by omega,fun b hb=>f8a hb,fun a ha b hb hab=>s7a h.up ha hb hab⟩
theorem N2a.start (n:Nat) (hn:S.words.length=n):N2a S m 0 (List.replicate n 0):=
 ⟨by simp [hn],by simp,fun c hc=>by simp only [E0c];exact I1b _ _,fun j _=>I1b _ _⟩
theorem N2a.into (h:Wf S B L ch) (g:Goes S m next) (P:N2a S m i V) (ha:S.taken[i]? = some a) :
    I3a S m a V 0 (((V.set (m a) (ow S.words a)).set (m a+1) (ow S.words (a+1))).set (m a+2) (ow S.words (a+2))):=by
  have hat:=u1b ha;have r:=g.rng a hat;have t:=g.top;have p:=h.part hat;have hl:=P.len;have e:∀ j,ow (((V.set (m a) (ow S.words a)).set (m a+1) (ow S.words (a+1))).set (m a+2) (ow S.words (a+2))) j=if j=m a+2 then ow S.words (a+2) else if j=m a+1 then ow S.words (a+1) else if j=m a then ow S.words a else ow V j:=fun j=>by
   rw [S0a (by simp;omega),S0a (by simp;omega),S0a (by omega)]
  refine ⟨by simp;exact hl,⟨?_, ?_, ?_⟩,fun j hj=>absurd hj (D0c _),fun j hj=>?_⟩
  . rw [e,H4c (by omega),H4c (by omega),H5c rfl]
  . rw [e,H4c (by omega),H5c rfl]
  . rw [e,H5c rfl]
  rw [e,H4c (by omega),H4c (by omega),H4c (by omega)]
theorem I3a.step (h:Wf S B L ch) (g:Goes S m next) (hat:a ∈ S.taken) (F:I3a S m a V0 k V) (hk:k < wz S.sizes (ow S.words a)-4):m a+4+k < V.length/\I3a S m a V0 (k+1) (V.set (m a+4+k) ((nz (ow S.words) S.sizes m a).getD k 0)):=by
 have r:=g.rng a hat
 have t:=g.top
 have p:=h.part hat
 have hl:=F.len
 have hlt:m a+4+k < V.length:=by omega
 refine ⟨hlt,by simpa using hl,⟨?_, ?_, ?_⟩,fun j hj=>?_,fun j hj=>?_⟩
 . rw [A1a hlt (by omega)];exact F.three.1
 . rw [A1a hlt (by omega)];exact F.three.2.1
 . rw [A1a hlt (by omega)];exact F.three.2.2
 . by_cases e:j=k
   . subst e;rw [D8a hlt]
   rw [A1a hlt (by omega)];exact F.fld j (by omega)
 rw [A1a hlt (by omega)]
 exact F.other j hj
theorem I3a.fill (h:Wf S B L ch) (g:Goes S m next) (hat:a ∈ S.taken) (F:I3a S m a V0 k V) (hk:k < wz S.sizes (ow S.words a)-4) (x:Int):m a+4+k < V.length/\I3a S m a V0 k (V.set (m a+4+k) x):=by
 have r:=g.rng a hat
 have t:=g.top
 have p:=h.part hat
 have hl:=F.len
 have hlt:m a+4+k < V.length:=by omega
 refine ⟨hlt,by simpa using hl,⟨?_, ?_, ?_⟩,fun j hj=>?_,fun j hj=>?_⟩
 . rw [A1a hlt (by omega)];exact F.three.1
 . rw [A1a hlt (by omega)];exact F.three.2.1
 . rw [A1a hlt (by omega)];exact F.three.2.2
 . rw [A1a hlt (by omega)];exact F.fld j (by omega)
 rw [A1a hlt (by omega)]
 exact F.other j hj
theorem R1a (ha:T[i]? = some a):b ∈ T.take (i+1) ↔ b ∈ T.take i \/ b=a:=by
 obtain ⟨hl,rfl⟩:=q5b.1 ha
 rw [p5b hl,C4c,w8b]
theorem T7b (h:T.Pairwise (· < ·)) (ha:T[i]? = some a) (hb:b ∈ T.take i):b ∈ T/\b < a:=by
 refine ⟨u4b hb, ?_⟩
 obtain ⟨k,hk,e⟩:=u9b hb
 rw [List.getElem_take] at e
 obtain ⟨hl,rfl⟩:=q5b.1 ha
 rw [<- e]
 rw [A3c] at hk
 exact q9b.1 h k i (by omega) hl (by omega)
theorem I3a.done (h:Wf S B L ch) (g:Goes S m next) (P:N2a S m i V0) (ha:S.taken[i]? = some a) (F:I3a S m a V0 (wz S.sizes (ow S.words a)-4) V) (hc:cz (ow S.words a) (nz (ow S.words) S.sizes m a)=c) :
    m a+3 < V.length/\c < V.length/\ow (V.set (m a+3) (ow V c)) c=ow V c/\N2a S m (i+1) ((V.set (m a+3) (ow V c)).set c (m a:Int)):=by
  have hat:=u1b ha;have r:=g.rng a hat;have t:=g.top;have p:=h.part hat;have hl:=F.len;have hc16:c < 16:=hc ▸ P0a _ _;have h1:m a+3 < V.length:=by omega
  have h2:c < (V.set (m a+3) (ow V c)).length:=by simp;omega
  have e:∀ j,ow ((V.set (m a+3) (ow V c)).set c (m a:Int)) j=if j=c then (m a:Int) else if j=m a+3 then ow V c else ow V j:=fun j=>by
   rw [S0a h2,S0a h1]
  have old:∀ b ∈ S.taken.take i,b ∈ S.taken/\m b+wz S.sizes (ow S.words b)<=m a/\17<=m b/\5<=wz S.sizes (ow S.words b):=fun b hb=>by
   obtain ⟨q1,q2⟩:=T7b h.up ha hb;exact ⟨q1,g.up b q1 a hat q2,(g.rng b q1).1,(h.part q1).2.2.2.1⟩
  have G:∀ j,(j < m a \/ m a+wz S.sizes (ow S.words a)<=j)->j ≠ c->ow ((V.set (m a+3) (ow V c)).set c (m a:Int)) j=ow V0 j:=fun j hj hne=>by
   rw [e,H4c hne,H4c (by omega),F.other j hj]
  refine ⟨h1,by omega,by rw [A1a h1 (by omega)],by simpa using hl,fun b hb=>?_,fun c' hc'=>?_,fun j hj=>?_⟩
  . rcases (R1a ha).1 hb with hb | rfl
    . obtain ⟨q0,q1,q2,q3⟩:=old b hb;obtain ⟨d1,d2,d3,d4⟩:=P.done b hb;exact ⟨(G _ (by omega) (by omega)).trans d1,(G _ (by omega) (by omega)).trans d2,(G _ (by omega) (by omega)).trans d3,fun k hk=>(G _ (by omega) (by omega)).trans (d4 k hk)⟩
    have X:∀ j,j ≠ 3->j < wz S.sizes (ow S.words b)->ow ((V.set (m b+3) (ow V c)).set c (m b:Int)) (m b+j)=ow V (m b+j):=fun j hj _=>by rw [e,H4c (by omega),H4c (by omega)]
    refine ⟨(X 0 (by omega) (by omega)).trans F.three.1,(X 1 (by omega) (by omega)).trans F.three.2.1,(X 2 (by omega) (by omega)).trans F.three.2.2,fun k hk=>?_⟩;rw [show m b+4+k=m b+(4+k) by omega,X _ (by omega) (by omega),<- F0c];exact F.fld k hk
  . have et:S.taken.take (i+1)=S.taken.take i ++ [a]:=by
      obtain ⟨hl',rfl⟩:=q5b.1 ha;exact p5b hl'
    rw [et,y2a,hc];have p0:=P.path c' hc';have far:∀ x ∈ ccOf S m (S.taken.take i) (fun _=>[]) c',ow ((V.set (m a+3) (ow V c)).set c (m a:Int)) (x+3)=ow V0 (x+3):=fun x hx=>by
     rcases H2b hx with hx | ⟨b,hb,rfl⟩
     . cases hx
     obtain ⟨q0,q1,q2,q3⟩:=old b hb;exact G _ (by omega) (by omega)
    by_cases ec:c'=c
    . subst ec;rw [H5c rfl];refine ⟨by rw [e,H5c rfl],by omega,p0.move ?_ far⟩;rw [e,H4c (by omega),H5c rfl];exact F.other _ (by omega)
    rw [H4c ec];exact p0.congr (G _ (by omega) ec) far
  have hj':j=16 \/ 17<=j/\(∀ b ∈ S.taken.take i,j < m b \/ m b+wz S.sizes (ow S.words b)<=j):=by
   rcases hj with hj | ⟨hj,hn⟩
   . exact .inl hj
   exact .inr ⟨hj,fun b hb=>hn b ((R1a ha).2 (.inl hb))⟩
  have hja:j < m a \/ m a+wz S.sizes (ow S.words a)<=j:=by
   rcases hj with hj | ⟨hj,hn⟩
   . omega
   exact hn a ((R1a ha).2 (.inr rfl))
  rw [G j hja (by omega)];exact P.rest j hj'
theorem N2a.near {L':List Tl} {ch':Nat->List Nat} (h:Wf S B L ch) (g:Goes S m (17+widths (ow S.words) S.sizes S.taken)) (v:Y7b S S' M m) (h':Wf S' B L' ch') (hch:ch'=ccOf S m S.taken (fun _=>[]))
    (h1:∀ b ∈ S.taken,ow S'.words (m b+1)=ow S.words (b+1))
    (hL:L'=(S.taken.map fun b=>(⟨m b,wz S.sizes (ow S.words b),false⟩:Tl)) ++ (if 17+widths (ow S.words) S.sizes S.taken < S.words.length then [⟨17+widths (ow S.words) S.sizes S.taken,S.words.length-(17+widths (ow S.words) S.sizes S.taken),true⟩] else []))
    (P:N2a S m S.taken.length V) :
    (17+widths (ow S.words) S.sizes S.taken < S.words.length->17+widths (ow S.words) S.sizes S.taken+1 < V.length/\Near L' (V.set (17+widths (ow S.words) S.sizes S.taken+1) ((S.words.length:Int)-((17+widths (ow S.words) S.sizes S.taken:Nat):Int))) S'.words) /\
    (¬ 17+widths (ow S.words) S.sizes S.taken < S.words.length->Near L' V S'.words):=by
  have hlen:=P.len;have ed:S.taken.take S.taken.length=S.taken:=A8c;have hdone:=P.done;have hpath:=P.path;have hrest:=P.rest;rw [ed] at hdone hpath hrest;generalize hnx:17+widths (ow S.words) S.sizes S.taken=next at *;have top:=g.top;have n17:17<=next:=by omega
  have fs3:next < S.words.length->next+3<=S.words.length:=fun hlt=>by
   have:=h'.parts.lay.mem (t:=⟨next,S.words.length-next,true⟩) (by rw [hL,H5c hlt];simp);have:3<=S.words.length-next:=this.2.2;omega
  have main:∀ W:List Int,W.length=V.length->(∀ j,j < next->ow W j=ow V j)->(next < S.words.length->ow W next=0/\ow W (next+1)=((S.words.length-next:Nat):Int))->Near L' W S'.words:=fun W hWl hW hF=>by
   refine A5b h' (by rw [hWl,hlen,v.len]) (fun c hc=>?_) (fun b' hb' i hi=>?_) (fun t ht hf=>?_)
   . have p1:=h'.chains.path c hc;rw [hch] at p1;rw [hW c (by omega)];exact (N8a (hpath c hc) p1).1
   . rw [v.taken,F7c] at hb';obtain ⟨b,hb,rfl⟩:=hb';have r:=g.rng b hb;have p:=h.part hb;rw [v.sizes,v.tag b hb] at hi;rw [hW _ (by omega)];obtain ⟨d1,d2,d3,d4⟩:=hdone b hb
     by_cases i0:i=0
     . subst i0;exact d1.trans (v.tag b hb).symm
     by_cases i1:i=1
     . subst i1;rw [d2,h1 b hb]
     by_cases i2:i=2
     . subst i2;rw [d3,v.hold b hb]
     by_cases i3:i=3
     . subst i3;have hm:m b ∈ S'.taken:=by rw [v.taken];exact F7c.2 ⟨b,hb,rfl⟩
       have hin:=(h'.chains.mem _ (P0a (ow S'.words (m b)) (fz (ow S'.words) S'.sizes (m b))) (m b)).2 ⟨hm,rfl⟩;generalize hc:cz (ow S'.words (m b)) (fz (ow S'.words) S'.sizes (m b))=c at hin;have hc16:c < 16:=hc ▸ P0a _ _;have p1:=h'.chains.path c hc16;rw [hch] at p1 hin;exact (N8a (hpath c hc16) p1).2 _ hin
     have e:=d4 (i-4) (by omega);rw [show m b+4+(i-4)=m b+i by omega] at e;rw [e,<- v.fs b hb];unfold fz;have hg:(cut (ow S'.words) (m b+4) (wz S.sizes (ow S'.words (m b))-4))[i-4]? = some (ow S'.words (m b+4+(i-4))):=I5a (by rw [v.tag b hb];omega);rw [q1b,hg,show m b+4+(i-4)=m b+i by omega];rfl
   rw [hL] at ht
   rcases C4c.1 ht with ht | ht
   . obtain ⟨b,_,rfl⟩:=F7c.1 ht
     cases hf
   split at ht
   . rename_i hlt;have:t=⟨next,S.words.length-next,true⟩:=by simpa using ht
     subst this;exact hF hlt
   cases ht
  have zero:∀ j,next<=j->ow V j=0:=fun j hj=>hrest j (.inr ⟨by omega,fun b hb=>by have:=g.rng b hb;omega⟩)
  refine ⟨fun hlt=>?_,fun hn=>main V rfl (fun _ _=>rfl) fun hlt=>absurd hlt hn⟩;have f3:=fs3 hlt;have hl1:next+1 < V.length:=by omega
  refine ⟨hl1,main _ (by simp) (fun j hj=>A1a hl1 (by omega)) fun _=>⟨?_, ?_⟩⟩
  . rw [A1a hl1 (by omega)];exact zero next (H0c _)
  rw [D8a hl1];omega
end
def E1a (m:Nat->Nat) (T:List Nat):List Int:=T.flatMap fun a=>if m a ≠ a then [(a:Int),(m a:Int)] else []
end Hp
open Go.RowKit Go.Maps
def Rd.own (r:Rd):List Nat:=[r.rb,r.gb]
structure RW (w:World) (r:Rd) (S:Hp.Hs):Prop where
 c0:w.cell? ⟨r.rb,0,none⟩=some (.slice r.sp S.sizes.length r.sc)
 c1:w.cell? ⟨r.rb,1,none⟩=some (.slice r.op S.order.length r.oc)
 c2:w.cell? ⟨r.rb,2,none⟩=some (.slice (some ⟨r.gb,0,none⟩) S.words.length r.wc)
 f2:w.frozen? ⟨r.rb,2,none⟩=false
 sizes:SliceAt w r.sp r.sc S.sizes
 order:SliceAt w r.op r.oc S.order
 words:A3a w r.gb S.words
 le:S.words.length<=r.wc
 cap:r.wc<=9223372036854775807
 go:r.go=0
 apart:r.rb ≠ r.gb
 far1:0 < S.sizes.length -> ∀ b o,r.sp=some ⟨b,o,none⟩->b ∉ r.own
 far2:0 < S.order.length -> ∀ b o,r.op=some ⟨b,o,none⟩->b ∉ r.own
theorem A3a.slice (h:A3a w g W) (h1:W.length<=c) (h2:c<=9223372036854775807):SliceAt w (some ⟨g,0,none⟩) c W:=
 ⟨h1,h2,h.wf,fun _=>⟨g,0,rfl,h.lt,fun j x hx=>by rw [G4c];exact h.get hx⟩⟩
theorem SliceAt.but1 (h:SliceAt w p c l) {bs:List Nat} (k:But bs w w') (hf:0 < l.length -> ∀ b o,p=some ⟨b,o,none⟩->b ∉ bs):SliceAt w' p c l:=by
 refine ⟨h.le,h.cap,h.wf,fun h0=>?_⟩
 obtain ⟨b,o,rfl,hb,hc⟩:=h.cells h0
 exact ⟨b,o,rfl,x4b hb k.size,fun j x hx=>(k.cell hb (hf h0 b o rfl) _).trans (hc j x hx)⟩
namespace RW
variable {w w':World} {r:Rd} {S:Hp.Hs}
theorem at_ (h:RW w r S):RAt w r S:=⟨h.c0,h.c1,by rw [h.go];exact h.c2,h.sizes,h.order,by rw [h.go];exact h.words.slice h.le h.cap⟩
theorem lt (h:RW w r S):r.rb < w.heap.size:=cell_lt h.c0
theorem ext (h:RW w r S) (k:Ext w w'):RW w' r S:=
 { h with
   c0:=k.q h.c0
   c1:=k.q h.c1
   c2:=k.q h.c2
   f2:=(k.frozen h.lt 2).trans h.f2
   sizes:=h.sizes.ext k
   order:=h.order.ext k
   words:=h.words.ext k }
theorem turn (h:RW w r S) (k:But [r.gb] w w') (hw:A3a w' r.gb W) (hl:W.length=S.words.length):RW w' r { S with words:=W }:=
 have n1:r.rb ∉ [r.gb]:=by simp [h.apart]
 { h with
   c0:=(k.cell h.lt n1 0).trans h.c0
   c1:=(k.cell h.lt n1 1).trans h.c1
   c2:=by rw [k.cell h.lt n1 2,h.c2,hl]
   f2:=(k.frozen h.lt n1 2).trans h.f2
   sizes:=h.sizes.but1 k (fun h0 b o e hm=>h.far1 h0 b o e (by simp [Rd.own] at hm ⊢;simp [hm]))
   order:=h.order.but1 k (fun h0 b o e hm=>h.far2 h0 b o e (by simp [Rd.own] at hm ⊢;simp [hm]))
   words:=hw
   le:=by rw [hl];exact h.le }
theorem get (h:RW w r S) (hj:j < S.words.length):w.cell? ⟨r.gb,j,none⟩=some (.int .i64 (Hp.ow S.words j)):=h.words.get (Hp.F7a hj)
theorem bound (h:RW w r S) (hj:j < S.words.length) : -9223372036854775808<=Hp.ow S.words j/\Hp.ow S.words j<=9223372036854775807:=h.words.bound (Hp.F7a hj)
theorem set (h:RW w r S) {v:Int} (hj:j < S.words.length) (h1 : -9223372036854775808<=v) (h2:v<=9223372036854775807):RW (w.setCell ⟨r.gb,j,none⟩ (.int .i64 v)) r { S with words:=S.words.set j v }:=
 h.turn ((But.refl _ _).setCell (by simp) _) (h.words.set (W':=S.words.set j v) (by simp [Hp.wr,hj]) h1 h2) (by simp)
end RW
structure RNow (w0 w:World) (r:Rd) (S:Hp.Hs):Prop extends RW w r S where
 but:But r.own w0 w
theorem Rd.Y3a (r:Rd):r.gb ∈ r.own:=by simp [Rd.own]
theorem Rd.S8a (r:Rd):r.rb ∈ r.own:=by simp [Rd.own]
namespace RNow
variable {w0 w w':World} {r:Rd} {S:Hp.Hs}
theorem refl (h:RW w r S):RNow w w r S:=⟨h,But.refl _ _⟩
theorem ext (h:RNow w0 w r S) (k:Ext w w'):RNow w0 w' r S:=⟨h.toRW.ext k,h.but.ext k⟩
theorem trans {a b c:World} (h:RNow a b r S) (k:RNow b c r S'):RNow a c r S':=⟨k.toRW,h.but.trans k.but⟩
theorem set (h:RNow w0 w r S) {v:Int} (hj:j < S.words.length) (h1 : -9223372036854775808<=v) (h2:v<=9223372036854775807):RNow w0 (w.setCell ⟨r.gb,j,none⟩ (.int .i64 v)) r { S with words:=S.words.set j v }:=
 ⟨h.toRW.set hj h1 h2,h.but.setCell (.inl r.Y3a) _⟩
theorem cut {P:Program} {c:Code} {Q:Exit->Act->World->Prop} {a:Act} (h:RNow w0 w r S) (k:∀ w',RNow w0 w' r S->c.wp P Q a w'):c.wp P Q a w:=k w h
end RNow
def C9a (r:Rd) (w:World) (v:Value) (S:Hp.Hs) (e:Ending) (w':World):Prop:=e = .returned v/\RNow w w' r S
theorem RNow.done {v:Value} (h:RNow w0 w r S):C9a r w0 v S (.returned v) w:=⟨rfl,h⟩
open Go.RowKit Go.Maps
theorem RNow.len {V:List Int} (h:RNow w0 w r { S with words:=V }) (e:V.length=n):w.cell? ⟨r.rb,2,none⟩=some (.slice (some ⟨r.gb,0,none⟩) n r.wc):=by
 rw [<- e]
 exact h.c2
theorem RNow.word {V:List Int} (h:RNow w0 w r { S with words:=V }) (hj:j < V.length) (e:Hp.ow V j=x):w.cell? ⟨r.gb,j,none⟩=some (.int .i64 x):=by
 rw [<- e]
 exact h.get hj
theorem RNow.as {V:List Int} (h:RNow w0 w r { S with words:=V }) (e:V=S.words):RNow w0 w r S:=by
 subst e
 exact h
theorem n9b {ch:Nat->List Nat} (h:RW w r { S with words:=W }) (hw:Hp.Wf S B L ch) (hn:Hp.Near L W S.words) :
    Calls prog 152 #[.pointer (some ⟨r.rb,0,none⟩)] w (C9a r w (.tuple #[]) S):=by
  have HP:=hZ hw.parts;have hi:=hw.hi;have lo:=hw.lo;have HZ:=hZ hw.fr.toFr;have hLn:=Hp.R0a hw.parts.lay;have hcap:=h.cap;have hle:S.words.length<=r.wc:=by rw [<- hn.len];exact h.le
  have LK0:=hZ (Hp.I9a.start hn hw.parts.lay);have N0:=hZ (RNow.refl h);obtain ⟨n,hnn⟩:∃ n,S.words.length=n:=⟨_,rfl⟩
  have EN:=hZ hnn;rw [hnn] at hi lo hLn hle;clear h hn hnn hw;go_enter func152,ntmps152
  go_wp2_with fail
  go_loopg [2,3] L.length (fun g b i wr=>∃ (P Q:List Hp.Tl) (a:Nat) (V:List Int),Q.length<=g/\i = .int .i64 a/\b = .int .i64 (Hp.B9a 16 P)/\a<=n/\Hid (L=P ++ Q)/\Hid (Hp.Lay a Q n)/\Hid (Hp.I9a L P a V S.words)/\Hid (RNow w wr r { S with words:=V }))
  case atStart=>exact ⟨[],L,17,W,H0c _,rfl,rfl,by omega,hZ rfl,hZ (by rw [<- EN.out];exact HP.out.lay),LK0,N0⟩
  case round=>
   obtain ⟨P,Q,a,V,hg,rfl,rfl,ha,EL,LQ,LK,N⟩:=hrel;have vl:V.length=n:=LK.out.len.trans EN.out;have EV:=hZ vl;have c2:=N.out.len vl;obtain ⟨bf,hbf⟩:∃ bf,Hp.B9a 16 P=bf:=⟨_,rfl⟩
   have BF:=hZ hbf;rw [hbf];clear hbf vl
   cases Q with
   | nil=>
    have:a=n:=LQ.out;subst this;have tk:decide ((a:Int) < (a:Int))=false:=dF;have FIN:=hZ (show bf < V.length/\V.set bf 0=S.words by
     have hP:P=L:=by rw [EL.out,C7c]
     have k:=LK.out;have b:=BF.out;rw [hP] at k b;have:=Hp.I9a.finish (EN.out ▸ k) HP.out (by have:=EN.out;omega);rw [b] at this;exact this)
    have b1:=FIN.out.1;rw [EV.out] at b1;have g1:=N.out.word (j:=bf) (x:=_) FIN.out.1 rfl;have fr:=N.out.words.froz bf;have z1:=N.out.words.lt;have NF:=hZ (RNow.as (S:=S) (V:=V.set bf 0) (N.out.set (j:=bf) (v:=0) FIN.out.1 (by omega) (by omega)) FIN.out.2)
    go_wp2_with fail
    go_returns;exact ⟨rfl,NF.out⟩
   | cons t Q=>
    obtain ⟨q1,q2,q3⟩:=LQ.out;have q4:=q3.le;have htL:t ∈ L:=by rw [EL.out];simp
    have ok:=HP.out.ok t htL;have np:=LK.out.toNear.part HP.out.lay htL;have EL2:Hid (L=(P ++ [t]) ++ Q):=hZ (by rw [EL.out];simp);have LQ2:=hZ q3;have tk:decide ((a:Int) < (n:Int))=true:=dT;have HNX:=hZ (show IntKind.i64.wrap ((a:Int)+(t.k:Int))=((a+t.k:Nat):Int) by rw [D2c];exact E4c _ (by omega));have HT:=hZ q1;have HTL:=hZ htL;have va:a+1 < V.length:=by rw [EV.out];omega
    rw [q1] at np;simp only [A5c] at hg
    cases hf:t.fr with
    | false=>
     have hcl:=ok.cell hf;rw [q1] at hcl;have hto:=Hp.Q8a HZ.out hcl.1;have e0:=np.1;have LONG:=hZ (fun W (hW:Ext wr W)=>K0a (N.out.toRW.at_.ext hW) HZ.out (a:=a) (by show a < V.length;omega) (by show Hp.okTag S.sizes (Hp.ow V a)=true;rw [e0];exact hcl.1));have EK:=hZ (show Hp.wz S.sizes (Hp.ow V a)=t.k by rw [e0];exact hcl.2.symm);have LONG2:Hid (∀ W,Ext wr W->Calls prog 67 #[.pointer (some ⟨r.rb,0,none⟩),.int .i64 a] W fun e w'=>e = .returned (.int .i64 (t.k:Int))/\Ext W w'):=hZ (fun W hW=>by rw [<- EK.out];exact LONG.out W hW);have gx:=N.out.word (j:=a) (x:=Hp.ow V a) (by omega) rfl;have t0:(Hp.ow V a != 0)=true:=by rw [e0];simp;omega
     have z1:=N.out.toRW.lt;have z2:=N.out.words.lt;have LK2:=hZ (LK.out.cell HP.out.lay htL HT.out hf);have BF2:=hZ (show Hp.B9a 16 (P ++ [t])=bf by rw [Hp.T4a,BF.out];simp [Hp.B9a,hf]);clear hcl hto ok np q3 q1 hf htL LONG EK e0;generalize Hp.ow V a=x at *
     go_wp2_with (go_at_call 67;refine m4_ (LONG2.out _ (exx)) fun w1 hb1 hc1 hf1 hs1=>?_)
     go_roundg Q.length
     case measure=>omega
     case rel=>exact ⟨P ++ [t],Q,a+t.k,V,H0c _,by go_num,by rw [BF2.out],by omega,EL2,LQ2,LK2,hZ (N.out.ext hb1)⟩
    | true=>
     have hfr:=ok.free hf;rw [q1] at hfr;have e0:Hp.ow V a=0:=np.1.trans hfr.1;have gx:=N.out.word (j:=a) (by omega) e0;have FR:=hZ (by have:=LK.out.free EL.out HP.out q1 hf;rw [BF.out] at this;exact this);have b1:=FR.out.1;rw [EV.out] at b1;have g1:=N.out.word (j:=bf) (x:=_) FR.out.1 rfl;have fr:=N.out.words.froz bf;have z1:=N.out.toRW.lt;have z2:=N.out.words.lt;have N1:=hZ (N.out.set (j:=bf) (v:=(a:Int)) FR.out.1 (by omega) (by omega));have BF2:=hZ (show Hp.B9a 16 (P ++ [t])=a+2 by rw [Hp.T4a];simp [Hp.B9a,hf,HT.out]);have HF:=hZ hf;clear hfr ok np q3 q1 hf htL e0 va;go_upto_region 6 with (fail)
     refine RNow.cut N1.out ?_;intro w5 N5;have NN:=hZ N5;clear N5 N1 fr g1 gx c2 z1 z2 N EV LK
     go_wp2_with fail
     go_loopg [4] t.k (fun g s wx=>∃ (i:Nat) (V:List Int),a+3<=i/\i<=a+t.k/\a+t.k-i<=g/\s = .int .i64 i/\Hid (Hp.X8a L t i V S.words)/\Hid (RNow w wx r { S with words:=V }))
     case atStart=>exact ⟨a+3,_,H0c _,by omega,by omega,by go_num,hZ FR.out.2,NN⟩
     case round=>
      obtain ⟨i,V2,hi1,hi2,hgi,rfl,ZR,N⟩:=hrel;clear NN FR;have vl:V2.length=n:=ZR.out.len.trans EN.out;have c2:=N.out.len vl;have EV:=hZ vl;have np:=ZR.out.toNear.part HP.out.lay HTL.out;have hfr:=(HP.out.ok t HTL.out).free HF.out;rw [HT.out] at np hfr;have gk:=N.out.word (j:=a+1) (x:=(t.k:Int)) (by omega) (np.2.trans hfr.2.1);have ia:IntKind.i64.wrap ((a:Int)+1)=(a:Int)+1:=E4c _ (by omega);have gk1:=gk
      by_cases hlt:i < a+t.k
      . have t1:decide ((i:Int) < ((a+t.k:Nat):Int))=true:=dT;have ST:=hZ (ZR.out.step HP.out HTL.out HF.out (by rw [HT.out];omega) (by rw [HT.out];omega));have g1:=N.out.word (j:=i) (x:=_) ST.out.1 rfl;have fr:=N.out.words.froz i;have z1:=N.out.toRW.lt;have z2:=N.out.words.lt;have HNX2:=HNX.out;have i_n:i < n:=by omega
        have N1:=hZ (N.out.set (j:=i) (v:=0) ST.out.1 (by omega) (by omega));clear np hfr vl
        go_wp2_with fail
        go_roundg (a+t.k-(i+1))
        case measure=>omega
        case rel=>exact ⟨i+1,_,by omega,by omega,H0c _,by go_num,hZ ST.out.2,N1⟩
      have:i=a+t.k:=by omega
      subst this;have t1:decide (((a+t.k:Nat):Int) < ((a+t.k:Nat):Int))=false:=dF;have e0:Hp.ow V2 a=0:=np.1.trans hfr.1;have gx:=N.out.word (j:=a) (by omega) e0;have LONG:=hZ (fun W (hW:Ext wr W)=>d3a (N.out.toRW.at_.ext hW) (a:=a) (k:=t.k) (by show a+1 < V2.length;omega) e0 (np.2.trans hfr.2.1));have LK2:=hZ (show Hp.I9a L (P ++ [t]) (a+t.k) V2 S.words by have z:=ZR.out;rw [<- HT.out] at z ⊢;exact z.fin HF.out);have HNX2:=HNX.out;have z1:=N.out.toRW.lt;clear np hfr vl e0
      go_wp2_with (go_at_call 67;refine m4_ (LONG.out _ (exx)) fun w1 hb1 hc1 hf1 hs1=>?_)
      go_roundg Q.length
      case measure=>omega
      case rel=>exact ⟨P ++ [t],Q,a+t.k,V2,H0c _,by go_num,by rw [BF2.out];go_num,by omega,EL2,LQ2,LK2,hZ (N.out.ext hb1)⟩
theorem c7b (b:Bool) (P Q:List Hp.Tl):pick b (P ++ Q)=pick b P ++ pick b Q:=by simp [pick]
theorem R9b (hj:j < (pick true L).length):∃ u ∈ L,u.fr=true/\Hp.rd (pick true L) j=some (u.a:Int):=by
 unfold pick at hj ⊢
 rw [C6c] at hj
 have hm:=A4c hj
 rw [C0c] at hm
 refine ⟨_,hm.1,by simpa using hm.2, ?_⟩
 unfold Hp.rd
 rw [y7b,r1b hj]
 rfl
theorem K1b {ch:Nat->List Nat} (h:RW w r S) (hw:Hp.Wf S B L ch) {wd:Nat} (h16:wd<=16) (hno:∀ u ∈ L,u.fr=true -> ¬ Hp.Fits wd u) :
    Calls prog 182 #[.pointer (some ⟨r.rb,0,none⟩),.int .i64 wd] w (Rt w (.int .i64 0)):=by
  have FREE:=hZ (rFree h.at_ hw.fr.toFr hw.hi hw.parts);have HP:=hZ hw.parts;have H:=hZ h;have HNO:=hZ hno;have hi:=hw.hi;have hle:=h.le;have hcap:=h.cap;have plen:=r7a true L;have hLn:=Hp.R0a hw.parts.lay;obtain ⟨n,hn⟩:∃ n,S.words.length=n:=⟨_,rfl⟩
  have EN:=hZ hn;obtain ⟨m,hm⟩:∃ m,(pick true L).length=m:=⟨_,rfl⟩
  have EM:=hZ hm;have z1:=h.lt;have z2:=h.words.lt;have c2:=h.c2;rw [hn] at hi hle hLn c2;rw [hm] at plen;clear h hw hno hn hm;go_enter func182,ntmps182
  go_wp2_with (go_at_call 84;refine FREE.out.mono ?_;rintro e w1 ⟨p,c,rfl,hR,hE⟩;rw [EM.out];have RR:=hZ hR.at_;have E1:=hZ hE)
  clear hR hE FREE;have lle:=RR.out.le;have lcap:=RR.out.cap;rw [EM.out] at lle
  go_loopg [6] m (fun g i wr=>∃ j:Nat,j<=m/\m-j<=g/\i = .int .i64 j/\Hid (Ext w1 wr))
  case atStart=>exact ⟨0,G9c _,by omega,rfl,hZ (Ext.refl _)⟩
  case round=>
   obtain ⟨j,hj,hg,rfl,E⟩:=hrel
   by_cases hlt:j < m
   . obtain ⟨u,hu,huf,hrd⟩:=R9b (L:=L) (j:=j) (by rw [EM.out];exact hlt);obtain ⟨lb,lo,hlp,hlbb,hlc⟩:=(RR.out.ext E.out).cells (by rw [EM.out];omega);have gl:=hlc j _ hrd;have Ew:=E1.out.trans E.out;have mu:=HP.out.lay.mem hu;rw [EN.out] at mu;have ok:=(HP.out.ok u hu).free huf;have gw:=H.out.get (j:=u.a+1) (by rw [EN.out];omega);rw [ok.2.1] at gw;have gw:=Ew.q gw;have c2w:=Ew.q c2;have zb:r.rb < wr.heap.size:=x4b z1 Ew.le;have zg:r.gb < wr.heap.size:=x4b z2 Ew.le;have nf:=HNO.out u hu huf;unfold Hp.Fits at nf;have t0:((u.k:Int) != (wd:Int))=true:=by simp;omega
     have t1:decide ((u.k:Int) < (wd:Int)+3)=true:=dT;have tk:decide ((j:Int) < (m:Int))=true:=dT;have k1:u.a+1 < n:=by omega
     have k2:u.k<=n:=by omega
     clear hlc hrd hu huf ok mu nf;generalize u.a=a at *;generalize u.k=k at *;obtain ⟨i1,i2,i3,i4⟩:IntKind.i64.wrap (((a:Nat):Int)+1)=((a:Nat):Int)+1/\(0:Int)<=((a:Nat):Int)+1/\((a:Nat):Int)+1 < ((n:Nat):Int)/\(((a:Nat):Int)+1).toNat=a+1:=⟨E4c _ (by omega),by omega,by omega,by omega⟩
     subst hlp
     go_wp2_with fail
     have pr59a:=Ext.r c2w;have pr59b:=Ext.r gl;have pr59c:=Ext.r gw
     refine rg0 wr ?_
     refine' tkd 0 ?_;refine' tkd 2 ?_;refine' tkd 4 ?_;refine' tkd 6 ?_;refine' tkd 8 ?_;refine' tkd 10 ?_;refine' tkd 12 ?_;refine' tkd 14 ?_;refine' tkL 16 ?_;refine A0a (by kernel_rfl) ?_ _;intro x1 _ Ex1;clear pr59a pr59b pr59c;have E2:=hZ (E.out.trans Ex1)
     go_wp2_with fail
     go_roundg (m-(j+1))
     case measure=>omega
     case rel=>exact ⟨j+1,by omega,H0c _,by go_num,E2⟩
   have:j=m:=by omega
   subst this;have tk:decide ((j:Int) < (j:Int))=false:=dF
   go_wp2_with fail
   go_returns;exact ⟨rfl,E1.out.trans E.out⟩
def F6b (w:World) (r:Rd) (S:Hp.Hs) (a k wd:Nat) (e:Ending) (w':World):Prop:=∃ W,e = .returned (.int .i64 a)/\Hp.Took S a k wd W/\RNow w w' r { S with words:=W }
theorem V9b {P Q:List Hp.Tl} {ch:Nat->List Nat} (h:RW w r S) (hw:Hp.Wf S B (P ++ ⟨a,k,true⟩ :: Q) ch) {wd:Nat} (h5:5<=wd) (h16:wd<=16) (hno:∀ v ∈ P,v.fr=true -> ¬ Hp.Fits wd v) (hfit:Hp.Fits wd ⟨a,k,true⟩) :
    Calls prog 182 #[.pointer (some ⟨r.rb,0,none⟩),.int .i64 wd] w (F6b w r S a k wd):=by
  have FREE:=hZ (rFree h.at_ hw.fr.toFr hw.hi hw.parts);have HP:=hZ hw.parts;have H:=hZ (RNow.refl h);have HNO:=hZ hno;have HFIT:=hZ hfit;have hi:=hw.hi;have hle:=h.le;have hcap:=h.cap;have plen:=r7a true (P ++ ⟨a,k,true⟩ :: Q);have hLn:=Hp.R0a hw.parts.lay;have epick:pick true (P ++ ⟨a,k,true⟩ :: Q)=pick true P ++ (a:Int) :: pick true Q:=by
   rw [c7b]
   congr 1
  obtain ⟨n,hn⟩:∃ n,S.words.length=n:=⟨_,rfl⟩
  have EN:=hZ hn;obtain ⟨m,hm⟩:∃ m,(pick true (P ++ ⟨a,k,true⟩ :: Q)).length=m:=⟨_,rfl⟩
  have EM:=hZ hm;obtain ⟨jt,hjt⟩:∃ jt,(pick true P).length=jt:=⟨_,rfl⟩
  have EJ:=hZ hjt;have hjm:jt < m:=by rw [<- hm,epick,<- hjt];simp
  have EP:=hZ epick;have z1:=h.lt;have z2:=h.words.lt;have c2:=h.c2;rw [hn] at hi hle hLn c2;rw [hm] at plen;clear h hw hno hn hm hjt epick hfit;go_enter func182,ntmps182
  go_wp2_with (go_at_call 84;refine FREE.out.mono ?_;rintro e w1 ⟨p,c,rfl,hR,hE⟩;rw [EM.out];have RR:=hZ hR.at_;have E1:=hZ hE)
  clear hR hE FREE;have lle:=RR.out.le;have lcap:=RR.out.cap;rw [EM.out] at lle
  go_loopg [6] m (fun g i wr=>∃ j:Nat,j<=jt/\m-j<=g/\i = .int .i64 j/\Hid (Ext w1 wr))
  case atStart=>exact ⟨0,G9c _,by omega,rfl,hZ (Ext.refl _)⟩
  case round=>
   obtain ⟨j,hj,hg,rfl,E⟩:=hrel;have Ew:=E1.out.trans E.out;have c2w:=Ew.q c2;have zb:r.rb < wr.heap.size:=x4b z1 Ew.le;have zg:r.gb < wr.heap.size:=x4b z2 Ew.le;have tk:decide ((j:Int) < (m:Int))=true:=dT;obtain ⟨lb,lo,hlp,hlbb,hlc⟩:=(RR.out.ext E.out).cells (by rw [EM.out];omega)
   by_cases hlt:j < jt
   . obtain ⟨v,hv,hvf,hrd⟩:=R9b (L:=P) (j:=j) (by rw [EJ.out];exact hlt);have hrd2:Hp.rd (pick true (P ++ ⟨a,k,true⟩ :: Q)) j=some (v.a:Int):=by
      rw [EP.out];unfold Hp.rd at hrd ⊢;rw [q6b (by rw [EJ.out];exact hlt)];exact hrd
     have gl:=hlc j _ hrd2;have hvL:v ∈ P ++ (⟨a,k,true⟩:Hp.Tl) :: Q:=by simp [hv]
     have mu:=HP.out.lay.mem hvL;rw [EN.out] at mu;have ok:=(HP.out.ok v hvL).free hvf;have gw:=H.out.get (j:=v.a+1) (by rw [EN.out];omega);rw [ok.2.1] at gw;have gw:=Ew.q gw;have nf:=HNO.out v hv hvf;unfold Hp.Fits at nf;have t0:((v.k:Int) != (wd:Int))=true:=by simp;omega
     have t1:decide ((v.k:Int) < (wd:Int)+3)=true:=dT;have k1:v.a+1 < n:=by omega
     have k2:v.k<=n:=by omega
     clear hlc hrd hrd2 hv hvL hvf ok mu nf;generalize v.a=va at *;generalize v.k=vk at *;obtain ⟨i1,i2,i3,i4⟩:IntKind.i64.wrap (((va:Nat):Int)+1)=((va:Nat):Int)+1/\(0:Int)<=((va:Nat):Int)+1/\((va:Nat):Int)+1 < ((n:Nat):Int)/\(((va:Nat):Int)+1).toNat=va+1:=⟨E4c _ (by omega),by omega,by omega,by omega⟩
     subst hlp
     go_wp2_with fail
     have pr60a:=Ext.r c2w;have pr60b:=Ext.r gl;have pr60c:=Ext.r gw
     refine rg0 wr ?_
     refine' tkd 0 ?_;refine' tkd 2 ?_;refine' tkd 4 ?_;refine' tkd 6 ?_;refine' tkd 8 ?_;refine' tkd 10 ?_;refine' tkd 12 ?_;refine' tkd 14 ?_;refine' tkL 16 ?_;refine A0a (by kernel_rfl) ?_ _;intro x1 _ Ex1;clear pr60a pr60b pr60c;have E2:=hZ (E.out.trans Ex1)
     go_wp2_with fail
     go_roundg (m-(j+1))
     case measure=>omega
     case rel=>exact ⟨j+1,by omega,H0c _,by go_num,E2⟩
   have:j=jt:=by omega
   subst this;have hrd2:Hp.rd (pick true (P ++ ⟨a,k,true⟩ :: Q)) j=some (a:Int):=by
    rw [EP.out];unfold Hp.rd;rw [q0b (by rw [EJ.out];exact H0c _),EJ.out,G1c];rfl
   have gl:=hlc j _ hrd2;have huL:(⟨a,k,true⟩:Hp.Tl) ∈ P ++ (⟨a,k,true⟩:Hp.Tl) :: Q:=by simp
   have mu:=HP.out.lay.mem huL;rw [EN.out] at mu;have mu1:17<=a:=mu.1;have mu2:a+k<=n:=mu.2.1;have mu3:3<=k:=mu.2.2;have ok:=(HP.out.ok _ huL).free rfl;have gw:=H.out.get (j:=a+1) (by rw [EN.out];omega);rw [show Hp.ow S.words (a+1)=(k:Int) from ok.2.1] at gw;have gw:=Ew.q gw;have fit:=HFIT.out;have fit:k=wd \/ wd+3<=k:=fit;have k1:a+1 < n:=by omega
   have k2:a+k<=n:=by omega
   have k3:17<=a:=by omega
   clear hlc hrd2 huL ok mu;obtain ⟨i1,i2,i3,i4⟩:IntKind.i64.wrap (((a:Nat):Int)+1)=((a:Nat):Int)+1/\(0:Int)<=((a:Nat):Int)+1/\((a:Nat):Int)+1 < ((n:Nat):Int)/\(((a:Nat):Int)+1).toNat=a+1:=⟨E4c _ (by omega),by omega,by omega,by omega⟩
   subst hlp
   by_cases hk:k=wd
   . subst hk;have t0:((k:Int) != (k:Int))=false:=by simp
     have t2:decide ((k:Int) > (k:Int))=false:=dF;have TK:Hid (Hp.Took S a k k (S.words.set a (-1))):=hZ ⟨by simp,fun q=>absurd q (E9c _),fun x hx=>Hp.A1a (by rw [EN.out];omega) (by omega)⟩
     go_wp2_with fail
     have pr61a:=Ext.r c2w;have pr61b:=Ext.r gl;have pr61c:=Ext.r gw
     refine rg0 wr ?_
     refine' tkd 0 ?_;refine' tkd 2 ?_;refine' tkd 4 ?_;refine' tkd 6 ?_;refine' tkd 8 ?_;refine' tkd 10 ?_;refine' tkd 12 ?_;refine' tkd 14 ?_;refine' tkL 16 ?_;refine A0a (by kernel_rfl) ?_ _;intro x1 _ Ex1;clear pr61a pr61b pr61c;have N:=hZ (H.out.ext (Ew.trans Ex1));clear c2w zb zg gw gl i1 i2 i3 i4;have c2x:=N.out.c2;rw [EN.out] at c2x;have za:=N.out.toRW.lt;have zc:=N.out.words.lt;have g0:=N.out.toRW.get (j:=a) (by rw [EN.out];omega);have fr:=N.out.words.froz a;have N2:=hZ (N.out.set (j:=a) (v:=-1) (by rw [EN.out];omega) (by omega) (by omega))
     go_wp2_with fail
     go_returns;exact ⟨_,rfl,TK.out,N2.out⟩
   have t0:((k:Int) != (wd:Int))=true:=by simp;omega
   have t1:decide ((k:Int) < (wd:Int)+3)=false:=dF;have t2:decide ((k:Int) > (wd:Int))=true:=dT;have kw:wd+3<=k:=by omega
   have e1:a+wd < S.words.length:=by rw [EN.out];omega
   have e2:a+wd+1 < (S.words.set (a+wd) 0).length:=by simp;rw [EN.out];omega
   have e3:a < ((S.words.set (a+wd) 0).set (a+wd+1) ((k:Int)-(wd:Int))).length:=by simp;rw [EN.out];omega
   have TK:Hid (Hp.Took S a k wd (((S.words.set (a+wd) 0).set (a+wd+1) ((k:Int)-(wd:Int))).set a (-1))):=hZ ⟨by simp,fun _=>by
    rw [Hp.A1a e3 (by omega),Hp.A1a e2 (by omega),Hp.D8a e1,Hp.A1a e3 (by omega),Hp.D8a e2];exact ⟨rfl,rfl⟩,fun x hx=>by rw [Hp.A1a e3 (by omega),Hp.A1a e2 (by omega),Hp.A1a e1 (by omega)]⟩
   have E3:=hZ e3;have E2':=hZ e2;have E1':=hZ e1;clear e1 e2 e3
   go_wp2_with fail
   have pr62a:=Ext.r c2w;have pr62b:=Ext.r gl;have pr62c:=Ext.r gw
   refine rg0 wr ?_
   refine' tkd 0 ?_;refine' tkd 2 ?_;refine' tkd 4 ?_;refine' tkd 6 ?_;refine' tkd 8 ?_;refine' tkd 10 ?_;refine' tkd 12 ?_;refine' tkd 14 ?_;refine' tkL 16 ?_;refine A0a (by kernel_rfl) ?_ _;intro x1 _ Ex1;clear pr62a pr62b pr62c;have N:=hZ (H.out.ext (Ew.trans Ex1));clear c2w zb zg gw gl i1 i2 i3 i4;have c2x:=N.out.c2;rw [EN.out] at c2x;have za:=N.out.toRW.lt
   go_wp2_with fail
   obtain ⟨p1,p2,p3,p4⟩:IntKind.i64.wrap (((a:Nat):Int)+((wd:Nat):Int))=((a:Nat):Int)+((wd:Nat):Int)/\(0:Int)<=((a:Nat):Int)+((wd:Nat):Int)/\((a:Nat):Int)+((wd:Nat):Int) < ((n:Nat):Int)/\(((a:Nat):Int)+((wd:Nat):Int)).toNat=a+wd:=⟨E4c _ (by omega),by omega,by omega,by omega⟩
   obtain ⟨q1,q2,q3,q4⟩:IntKind.i64.wrap (((a:Nat):Int)+((wd:Nat):Int)+1)=((a:Nat):Int)+((wd:Nat):Int)+1/\(0:Int)<=((a:Nat):Int)+((wd:Nat):Int)+1/\((a:Nat):Int)+((wd:Nat):Int)+1 < ((n:Nat):Int)/\(((a:Nat):Int)+((wd:Nat):Int)+1).toNat=a+wd+1:=⟨E4c _ (by omega),by omega,by omega,by omega⟩
   have ws:IntKind.i64.wrap ((k:Int)-(wd:Int))=(k:Int)-(wd:Int):=E4c _ (by omega);refine wp_region_any (by kernel_rfl) ?_;refine' tkB 11 ?_;refine' tkB 12 ?_;refine' tkB 13 ?_;refine' tkB 14 ?_;refine' tkB 15 ?_;refine' tkB 16 ?_;refine' tkB 17 ?_;have pr63a:=Ext.r c2x
   refine B3a (S:=fun W=>Ext x1 W) (R:=Ext) 18 11 Ext.refl ?_ ?_ (by rfl)
   . exact Ext.drew exx
   refine' tkY 0 ?_;refine' tkY 1 ?_;refine' tkY 2 ?_;refine' tkY 3 ?_;refine' tkY 4 ?_;refine' tkY 5 ?_;refine' tkY 6 ?_;refine' tkY 7 ?_;refine' tkY 8 ?_;refine' tkY 9 ?_;refine' tkY 10 ?_;refine A9a (by kernel_rfl) ?_;intro xd _ Exd;clear pr63a;simp only [v0b,D9c];clear c2x za;have ND:=hZ (N.out.ext Exd);have c2x:=ND.out.c2;rw [EN.out] at c2x;have za:=ND.out.toRW.lt;have zc:=ND.out.words.lt;have g3:=ND.out.toRW.get (j:=a+wd) E1'.out;have g4:=ND.out.toRW.get (j:=a+wd+1) (by rw [EN.out];omega);have fr3:=ND.out.words.froz (a+wd);have fr4:=ND.out.words.froz (a+wd+1);have H1:=hZ (ND.out.set (j:=a+wd) (v:=0) E1'.out (by omega) (by omega));have H2:=hZ (H1.out.set (j:=a+wd+1) (v:=(k:Int)-(wd:Int)) E2'.out (by omega) (by omega));clear p1 p2 p3 p4 q1 q2 q3 q4 ws;go_upto_region 9 with (fail)
   refine RNow.cut H2.out ?_;intro w3 N3';have N3:=hZ N3';clear N3' fr3 fr4 g3 g4 c2x za zc H1 H2 ND Exd;have c2x:=N3.out.len (n:=n) (by simp;exact EN.out);have za:=N3.out.toRW.lt;have zc:=N3.out.words.lt;have g0:=N3.out.word (j:=a) (x:=_) E3.out rfl;have fr:=N3.out.words.froz a;have N4:=hZ (N3.out.set (j:=a) (v:=-1) E3.out (by omega) (by omega))
   go_wp2_with fail
   go_returns;exact ⟨_,rfl,TK.out,N4.out⟩
theorem r4a {ch:Nat->List Nat} (h:RAt w r S) (hw:Hp.Wf S B L ch) (hq:SliceAt w q qc fs) (hmiss:∀ b ∈ S.taken,¬ (Hp.ow S.words b=t/\Hp.fz (Hp.ow S.words) S.sizes b=fs)) :
    Calls prog 133 #[.pointer (some ⟨r.rb,0,none⟩),.int .i64 t,.slice q fs.length qc] w (Rt w (.int .i64 0)):=by
  have CELLS:=hZ (c2a h hw);have FLD:=hZ (fun b (hb:b ∈ S.taken) W (hW:Ext w W)=>G0b (h.ext hW) hw hb);have FAT:=hZ (fun b (hb:b ∈ S.taken) W (hW:Ext w W)=>fieldAt (h.ext hW) hw hb);have HQ:=hZ hq;have H:=hZ h;have HW:=hZ hw;have few:=hw.few;have hhi:=hw.hi;have hle:=h.words.le;have hcap:=h.words.cap;have hlt:=h.lt;have qcap:=hq.cap;obtain ⟨gbb,o',hp',hbb,_⟩:=h.words.cells (by have:=hw.lo;omega)
  cases hp'
  have HM:=hZ hmiss;have c2:=h.c2;obtain ⟨n,hn⟩:∃ n,S.words.length=n:=⟨_,rfl⟩
  have EN:=hZ hn;rw [hn] at c2 hle few hhi;have qle:=hq.le;clear h hw hq hn hmiss;obtain ⟨m,hm⟩:∃ m,S.taken.length=m:=⟨_,rfl⟩
  have EM:=hZ hm;rw [hm] at few;clear hm;go_enter func133,ntmps133
  go_wp2_with (go_at_call 82;refine CELLS.out.mono ?_;rintro e w1 ⟨p,c,rfl,hR,hE⟩;rw [B8a,EM.out];have RR:=hZ hR.at_;have E1:=hZ hE)
  clear hR hE CELLS;have lle:=RR.out.le;have lcap:=RR.out.cap;rw [B8a,EM.out] at lle
  go_loopg [8] m (fun g i wr=>∃ j:Nat,j<=m/\m-j<=g/\i = .int .i64 j/\Hid (Ext w1 wr))
  case atStart=>exact ⟨0,G9c _,by omega,rfl,hZ (Ext.refl _)⟩
  case round=>
   obtain ⟨j,hj,hg,rfl,E⟩:=hrel
   by_cases hlt2:j < m
   . obtain ⟨b,hb,hbj,hrd⟩:=L1a (S:=S) (j:=j) (by rw [EM.out];exact hlt2);obtain ⟨lb,lo,hlp,hlbb,hlc⟩:=(RR.out.ext E.out).cells (by rw [B8a,EM.out];omega);have gl:=hlc j _ hrd;have Ew:=E1.out.trans E.out;have c2w:=Ew.q c2;have gw:=(H.out.ext Ew).get (j:=b) (by have:=HW.out.part hb;omega);have pb:=HW.out.part hb;rw [EN.out] at pb;have zb:r.rb < wr.heap.size:=x4b hlt Ew.le;have zg:r.gb < wr.heap.size:=x4b hbb Ew.le;have b1:b < n:=by omega
     have EW:=hZ Ew;have HB:=hZ hb;have HBJ:=hZ hbj;have FLB:=hZ (fun W (hW:Ext w W)=>FLD.out b hb W hW);have FAB:=hZ (fun W (hW:Ext w W)=>FAT.out b hb W hW);obtain ⟨fl,hfl⟩:∃ fl,(Hp.fz (Hp.ow S.words) S.sizes b).length=fl:=⟨_,rfl⟩
     have EFL:=hZ hfl;have tk:decide ((j:Int) < (m:Int))=true:=dT;clear hrd hlc hbj hb pb hfl;subst hlp
     by_cases hbt:Hp.ow S.words b=t
     . rw [hbt] at gw;have t0:(t == t)=true:=by simp
       have FLB2:Hid (∀ W,Ext w W->Calls prog 88 #[.pointer (some ⟨r.rb,0,none⟩),.int .i64 b] W fun e w'=>e = .returned (.slice (some ⟨r.gb,r.go+(b+4),none⟩) fl (r.wc-(b+4)))/\Ext W w'):=hZ (fun W hW=>by rw [<- EFL.out];exact FLB.out W hW);have SM:Hid (∀ W,Ext w W->Calls prog 24 #[.slice (some ⟨r.gb,r.go+(b+4),none⟩) fl (r.wc-(b+4)),.slice q fs.length qc] W fun e w'=>e = .returned (.bool false)/\Ext W w'):=hZ (fun W hW=>by
        have:=I6a (b:=false) (D7c (fun e=>HM.out b HB.out ⟨hbt,e⟩)) (FAB.out W hW) (HQ.out.ext hW);rw [EFL.out] at this;exact this)
       clear hbt
       go_wp2_with fail
       have pr64a:=Ext.r c2w;have pr64b:=Ext.r gl;have pr64c:=Ext.r gw
       refine rg0 wr ?_
       refine' tkd 0 ?_;refine' tkd 2 ?_;refine' tkd 4 ?_;refine' tkd 6 ?_;refine' tkd 8 ?_;refine' tkd 10 ?_;refine' tkd 12 ?_;refine' tkd 14 ?_;refine' tkd 16 ?_;refine' tkR 18 (v:=.slice (some ⟨r.gb,r.go+(b+4),none⟩) fl (r.wc-(b+4))) rfl (Or.inr ⟨by rfl,88,_, ?hx18_1696, ?hy18_1696⟩) ?rest18_1696
       case hx18_1696=>(intro w hSw;go_simp;try with_reducible rfl)
       case hy18_1696=>exact fun w hE=>(FLB2.out _ (EW.out.trans hE)).mono (fun _ _ h=>⟨h.1,h.2,Ext.trans hE h.2⟩)
       refine layy ?_;refine' tkL 19 ?_;refine' tkR 20 (v:=.bool false) rfl (Or.inr ⟨by rfl,24,_, ?hx20_1698, ?hy20_1698⟩) ?rest20_1698
       case hx20_1698=>(intro w hSw;go_simp;try with_reducible rfl)
       case hy20_1698=>exact fun w hE=>(SM.out _ (EW.out.trans hE)).mono (fun _ _ h=>⟨h.1,h.2,Ext.trans hE h.2⟩)
       refine layy ?_;refine' tkL 21 ?_;refine A0a (by kernel_rfl) ?_ _;intro x1 _ Ex1;clear pr64a pr64b pr64c;have E2:=hZ (E.out.trans Ex1)
       go_wp2_with fail
       go_roundg (m-(j+1))
       case measure=>omega
       case rel=>exact ⟨j+1,by omega,H0c _,by go_num,E2⟩
     have t0:(Hp.ow S.words b == t)=false:=by simpa using hbt
     clear hbt;generalize Hp.ow S.words b=y at *
     go_wp2_with fail
     have pr65a:=Ext.r c2w;have pr65b:=Ext.r gl;have pr65c:=Ext.r gw
     refine rg0 wr ?_
     refine' tkd 0 ?_;refine' tkd 2 ?_;refine' tkd 4 ?_;refine' tkd 6 ?_;refine' tkd 8 ?_;refine' tkd 10 ?_;refine' tkL 12 ?_;refine' tkN 13 ?_;refine' tkN 14 ?_;refine' tkN 15 ?_;refine' tkN 16 ?_;refine' tkN 17 ?_;refine' tkN 18 ?_;refine' tkN 19 ?_;refine' tkN 20 ?_;refine' tkL 21 ?_;refine A0a (by kernel_rfl) ?_ _;intro x1 _ Ex1;clear pr65a pr65b pr65c;have E2:=hZ (E.out.trans Ex1)
     go_wp2_with fail
     go_roundg (m-(j+1))
     case measure=>omega
     case rel=>exact ⟨j+1,by omega,H0c _,by go_num,E2⟩
   have:j=m:=by omega
   subst this;have tk:decide ((j:Int) < (j:Int))=false:=dF
   go_wp2_with fail
   go_returns;exact ⟨rfl,E1.out.trans E.out⟩
theorem RW.to (h:RW w r S) (h1:S'.sizes=S.sizes) (h2:S'.order=S.order) (h3:S'.words=S.words):RW w r S':=by
 obtain ⟨s,o,v,t⟩:=S
 obtain ⟨s',o',v',t'⟩:=S'
 simp only at h1 h2 h3
 subst h1 h2 h3
 exact ⟨h.c0,h.c1,h.c2,h.f2,h.sizes,h.order,h.words,h.le,h.cap,h.go,h.apart,h.far1,h.far2⟩
theorem RNow.to (h:RNow w0 w r S) (h1:S'.sizes=S.sizes) (h2:S'.order=S.order) (h3:S'.words=S.words):RNow w0 w r S':=⟨h.toRW.to h1 h2 h3,h.but⟩
theorem a4b {ch:Nat->List Nat} (h:RW w r S) (hw:Hp.Wf S B L ch) (ha:a ∈ S.taken) (hq:SliceAt w q qc (Hp.fz (Hp.ow S.words) S.sizes a)) :
    Calls prog 162 #[.pointer (some ⟨r.rb,0,none⟩),.int .i64 (Hp.ow S.words a),.slice q (Hp.fz (Hp.ow S.words) S.sizes a).length qc] w (C9a r w (.int .i64 a) S):=by
  have SM:=hZ (rSame h.at_ hw ha hq);have H:=hZ (RNow.refl h);have t0:decide ((a:Int) > 0)=true:=E5c (by have:=hw.part ha;omega);have t1:decide (0 < a)=true:=E5c (by have:=hw.part ha;omega);clear h hw ha hq;generalize (Hp.fz (Hp.ow S.words) S.sizes a).length=m at *;generalize Hp.ow S.words a=t at *;go_enter func162,ntmps162
  go_wp2_with (go_at_call 133;refine m4_ (SM.out) fun w1 hb1 hc1 hf1 hs1=>?_)
  go_returns;exact ⟨rfl,H.out.ext hb1⟩
theorem S4b {ch:Nat->List Nat} (h:RW w r S) (hw:Hp.Wf S B L ch) (hn:Hp.New S t fs) (hq:SliceAt w q qc fs)
    (hmiss:∀ b ∈ S.taken,¬ (Hp.ow S.words b=t/\Hp.fz (Hp.ow S.words) S.sizes b=fs)) (hno:∀ u ∈ L,u.fr=true -> ¬ Hp.Fits (Hp.wz S.sizes t) u) :
    Calls prog 162 #[.pointer (some ⟨r.rb,0,none⟩),.int .i64 t,.slice q fs.length qc] w (C9a r w (.int .i64 0) S):=by
  have SM:=hZ (r4a h.at_ hw hq hmiss);have H:=hZ (RNow.refl h);have wd:=hn.wide hw;rw [wd.1] at hno;have TK:=hZ (fun W (hW:Ext w W)=>K1b (h.ext hW) hw (wd:=4+fs.length) (by omega) hno);clear h hw hn hq hmiss hno;generalize fs.length=m at *;have e4:(4:Int)+(m:Int)=((4+m:Nat):Int):=by omega
  have w4:IntKind.i64.wrap ((4:Int)+(m:Int))=(4:Int)+(m:Int):=E4c _ (by omega);have w5:wrap64 ((4:Int)+(m:Int))=(4:Int)+(m:Int):=z8b _ ⟨by omega,by omega⟩;have TK2:Hid (∀ W,Ext w W->Calls prog 182 #[.pointer (some ⟨r.rb,0,none⟩),.int .i64 (4+(m:Int))] W fun e w'=>e = .returned (.int .i64 0)/\Ext W w'):=hZ (fun W hW=>by rw [e4];exact TK.out W hW);clear TK e4;go_enter func162,ntmps162
  go_wp2_with (first
   | (go_at_call 133;refine m4_ (SM.out) fun w1 hb1 hc1 hf1 hs1=>?_)
   | (go_at_call 182;refine (TK2.out _ (exx)).mono ?_;rintro e w2 ⟨rfl,hb2⟩))
  go_returns;exact ⟨rfl,H.out.ext (exx)⟩
namespace Hp
structure Unl (S:Hs) (ch:Nat->List Nat) (T:List Nat) (k:Nat) (W W1:List Int):Prop where
 len:W.length=S.words.length
 run:Hs.J9a T S.fuel W ((List.range 16).drop k)=some W1
 path:∀ c,k<=c->c < 16->Path (ow W) c (ch c)
structure N7b (S:Hs) (T:List Nat) (m link:Nat) (V Wk:List Int):Prop where
 len:V.length=S.words.length
 lt:link < S.words.length
 run:Hs.C5a T m V link=some Wk
 rest:∃ r:List Nat,Path (ow V) link r/\r.Nodup /\ ∀ a ∈ r,a ∈ S.taken/\link ≠ a+3
structure Counting (S:Hs) (W1:List Int) (D:List Nat) (i:Nat) (W:List Int):Prop where
 len:W.length=S.words.length
 other:∀ j,(∀ b ∈ S.taken,j ≠ b+1)->ow W j=ow W1 j
 cnt:∀ b ∈ S.taken,ow W (b+1)=ow W1 (b+1)-(Hp.cnt (ow S.words) S.sizes b (D.take i):Nat)
structure L4a (S:Hs) (W1:List Int) (D:List Nat) (i a k:Nat) (W:List Int):Prop where
 len:W.length=S.words.length
 other:∀ j,(∀ b ∈ S.taken,j ≠ b+1)->ow W j=ow W1 j
 cnt:∀ b ∈ S.taken,ow W (b+1)=ow W1 (b+1)-(Hp.cnt (ow S.words) S.sizes b (D.take i):Nat)-((((kz (ow S.words) S.sizes a).take k).count (b:Int):Nat):Int)
section
variable {S S3:Hs} {B:Nat} {L:List Tl} {ch:Nat->List Nat} {T:List Nat} {W W1 W2 V Wk:List Int} {k m link i a:Nat}
theorem Unl.start (h:Wf S B L ch) (m:Mid S ch T W1 W2 S3):Unl S ch T 0 S.words W1:=⟨rfl,by rw [D9c];exact m.un,fun c _ hc=>h.chains.path c hc⟩
theorem Unl.fin (u:Unl S ch T 16 W W1):W=W1:=by
 have:=u.run
 rw [show (List.range 16).drop 16=[] from rfl] at this
 simpa [Hs.J9a] using this
theorem Unl.into (h:Wf S B L ch) (hk:k < 16) (u:Unl S ch T k W W1):∃ Wk,N7b S T S.fuel k W Wk/\Unl S ch T (k+1) Wk W1:=by
 obtain ⟨Wk,r1,r2⟩:=d6a hk u.run
 have hlo:=h.lo
 have hlen:=u.len
 have p:=u.path k (H0c _) hk
 have nd:=h.chains.nodup k hk
 have mm:∀ c,c < 16 -> ∀ a ∈ ch c,a ∈ S.taken:=fun c hc a ha=>((h.chains.mem c hc a).1 ha).1
 obtain ⟨W',e1,l1,_,g1⟩:=I1a T (ch k) S.fuel k W p nd (fun a ha=>by have:=h.part (mm k hk a ha);omega) (by omega) (by
  have:=C4a nd (mm k hk);have:=h.few;unfold Hs.fuel;omega)
 rw [r1] at e1
 cases e1
 refine ⟨Wk,⟨u.len,by omega,r1,ch k,p,nd,fun a ha=>⟨mm k hk a ha,by have:=h.part (mm k hk a ha);omega⟩⟩,⟨l1.trans u.len,r2,fun c h1 h2=>?_⟩⟩
 refine (u.path c (by omega) h2).congr (g1 c (by omega) fun a ha=>by have:=h.part (mm k hk a ha);omega) fun a ha=>g1 (a+3) (by have:=h.part (mm c h2 a ha);omega) fun b hb e=>?_
 have:a=b:=by omega
 subst this
 have e1:=((h.chains.mem c h2 a).1 ha).2
 have e2:=((h.chains.mem k hk a).1 hb).2
 omega
theorem N7b.cases (h:Wf S B L ch) (u:N7b S T m link V Wk):∃ m',m=m'+1/\((ow V link=0/\Wk=V) \/ ∃ x,x ∈ S.taken/\ow V link=(x:Int) /\
    ((T.contains x=true/\N7b S T m' (x+3) V Wk) \/ (T.contains x=false/\N7b S T m' link (V.set link (ow V (x+3))) Wk))):=by
  obtain ⟨r,p,nd,hr⟩:=u.rest;have hlen:=u.len;have hlt:=u.lt;obtain ⟨m',a,hm,ha,hq⟩:=F5a u.run;refine ⟨m',hm, ?_⟩
  cases r with
  | nil=>
   have e:ow V link=0:=p;rw [Y5a (a:=0) (by omega) (by simpa using e)] at ha
   cases ha
   rcases hq with ⟨_,e2⟩ | ⟨h0,_⟩ | ⟨h0,_⟩
   . exact .inl ⟨e,e2⟩
   . exact absurd rfl h0
   exact absurd rfl h0
  | cons x r=>
   obtain ⟨e,h0,p⟩:=p;obtain ⟨d1,d2⟩:=C2c.1 nd;have hx:=hr x (by simp);have px:=h.part hx.1;rw [Y5a (by omega) e] at ha;have ea:x=a:=D3c ha;subst ea;refine .inr ⟨x,hx.1,e, ?_⟩
   rcases hq with ⟨h1,_⟩ | ⟨_,hc,hq⟩ | ⟨_,hc,y,V1,hy,hV,hq⟩
   . exact absurd h1 h0
   . exact .inl ⟨hc,hlen,by omega,hq,r,p,d2,fun b hb=>⟨(hr b (by simp [hb])).1,fun e'=>d1 (by rw [show x=b by omega];exact hb)⟩⟩
   have ey:=(ow_rd hy).1;have hl':link < V.length:=by omega
   unfold wr at hV;rw [H5c hl'] at hV
   cases hV
   rw [<- ey] at hq;refine .inr ⟨hc,by simpa using hlen,hlt,hq,r,p.move (by rw [D8a hl']) fun b hb=>A1a hl' (hr b (by simp [hb])).2.symm,d2,fun b hb=>hr b (by simp [hb])⟩
theorem Counting.start (m:Mid S ch T W1 W2 S3):Counting S W1 D 0 W1:=⟨m.l1,fun _ _=>rfl,fun b _=>by simp [Hp.cnt]⟩
theorem Counting.into (c:Counting S W1 D i W):L4a S W1 D i a 0 W:=⟨c.len,c.other,fun b hb=>by rw [c.cnt b hb];simp⟩
theorem L4a.done (ha:D[i]? = some a) (c:L4a S W1 D i a (kz (ow S.words) S.sizes a).length W):Counting S W1 D (i+1) W:=by
 refine ⟨c.len,c.other,fun b hb=>?_⟩
 have e:D.take (i+1)=D.take i ++ [a]:=by
  obtain ⟨hl,rfl⟩:=q5b.1 ha;exact p5b hl
 rw [c.cnt b hb,e,C7b,A8c]
 have:Hp.cnt (ow S.words) S.sizes b [a]=(kz (ow S.words) S.sizes a).count (b:Int):=by simp [Hp.cnt]
 rw [this]
 push_cast
 omega
theorem Counting.fin (h:Wf S B L ch) (m:Mid S ch T W1 W2 S3) (c:Counting S W1 (S.taken.filter fun a=>!T.contains a) (S.taken.filter fun a=>!T.contains a).length W):W=W2:=by
 refine g7b (by rw [c.len,m.l2]) fun j _=>?_
 by_cases hj:∀ b ∈ S.taken,j ≠ b+1
 . rw [c.other j hj,m.v3 j hj]
 obtain ⟨b,hb⟩:=Classical.not_forall.1 hj
 obtain ⟨hb',e⟩:=Classical.not_imp.1 hb
 have e:j=b+1:=z9b.1 e
 subst e
 rw [c.cnt b hb',m.v4 b hb',A8c]
theorem L4a.look (h:Wf S B L ch) (m:Mid S ch T W1 W2 S3) (c:L4a S W1 D i a k W) (hb:b ∈ S.taken) (hj:j < wz S.sizes (ow S.words b)) (h1:j ≠ 1) (h3:j ≠ 3):ow W (b+j)=ow S.words (b+j):=by
 rw [c.other _ fun x hx=>h.ne hb hx hj (by have:=h.part hx;omega) (.inr h1),m.k1 b hb j hj h3]
theorem Counting.look (h:Wf S B L ch) (m:Mid S ch T W1 W2 S3) (c:Counting S W1 D i W) (hb:b ∈ S.taken) (hj:j < wz S.sizes (ow S.words b)) (h1:j ≠ 1) (h3:j ≠ 3):ow W (b+j)=ow S.words (b+j):=L4a.look h m (c.into (a:=0)) hb hj h1 h3
theorem D5b (h:Wf S B L ch) (hD:∀ a ∈ D,a ∈ S.taken) (hn:D.Nodup) (hp:D.Sublist S.taken) (b i:Nat):Hp.cnt (ow S.words) S.sizes b (D.take i)<=100000:=by
 have h1:=cnt_le (f:=ow S.words) (z:=S.sizes) b (D.take i)
 have h2:∀ A C:List Nat,A.Sublist C->widths (ow S.words) S.sizes A<=widths (ow S.words) S.sizes C:=fun A C hs=>by
  induction hs with
  | slnil=>exact H0c _
  | cons x _ ih=>exact G5c ih (Nat.le_add_left _ _)
  | cons_cons x _ ih=>exact Nat.add_le_add_left ih _
 have h3:=h2 _ _ ((List.take_sublist i D).trans hp)
 have h4:=h.Q4a
 have:=h.hi
 omega
theorem L4a.step (h:Wf S B L ch) (m:Mid S ch T W1 W2 S3) (hp:D.Sublist S.taken) (ha:a ∈ S.taken) (c:L4a S W1 D i a k W) (hk:(kz (ow S.words) S.sizes a)[k]? = some (b:Int)) :
    b ∈ S.taken/\b+1 < W.length /\ -1000000<=ow W (b+1)/\ow W (b+1)<=100000/\L4a S W1 D i a (k+1) (W.set (b+1) (ow W (b+1)-1)):=by
  obtain ⟨b',hb,e,_⟩:=h.cells.kids a ha _ (u1b hk);have:b=b':=by omega
  subst this;have pb:=h.part hb;have hl:=c.len;have hlt:b+1 < W.length:=by omega
  have u:=h.h7a hb;have e1:=m.k1 b hb 1 (by omega) (by omega);have cc:=c.cnt b hb;have ct:=D5b h (fun x hx=>hp.subset hx) (hp.nodup (K7a h.up)) hp b i;have cl:(((kz (ow S.words) S.sizes a).take k).count (b:Int))<=12:=by
   refine G5c u0b ?_;rw [A3c];have:=u7a (f:=ow S.words) (z:=S.sizes) (a:=a);have:=h.part ha;omega
  refine ⟨hb,hlt,by omega,by omega,⟨by simpa using hl,fun j hj=>?_,fun x hx=>?_⟩⟩
  . rw [A1a hlt (hj b hb)];exact c.other j hj
  have ec:((kz (ow S.words) S.sizes a).take (k+1)).count (x:Int)=((kz (ow S.words) S.sizes a).take k).count (x:Int)+(if b=x then 1 else 0):=by
   rw [y6b,hk,z3b]
   congr 1
   by_cases e:b=x
   . subst e;simp
   have:((b:Int) == (x:Int))=false:=by simp;omega
   simp [C3c,this,e]
  rw [ec]
  by_cases e:x=b
  . subst e;rw [D8a hlt,H5c rfl,cc]
    push_cast
    omega
  rw [A1a hlt (by omega),H4c (fun q=>e q.symm),c.cnt x hx];simp
end
end Hp
namespace Hp
def toL (m:Nat->Nat) (T:List Nat) (j:Nat):List Int:=(T.take j).map (fun a=>((m a:Nat):Int)) ++ List.replicate (T.length-j) 0
theorem Z6b (m:Nat->Nat) (T:List Nat):toL m T 0=List.replicate T.length 0:=by simp [toL]
theorem o6b (m:Nat->Nat) (T:List Nat):toL m T T.length=T.map fun a=>((m a:Nat):Int):=by simp [toL]
theorem l8b {m:Nat->Nat} (h:j<=T.length):(toL m T j).length=T.length:=by
 simp [toL]
 omega
theorem j2b {m:Nat->Nat} (h:T[i]? = some a) (hij:i < j):rd (toL m T j) i=some ((m a:Nat):Int):=by
 have hl:=(q5b.1 h).1
 unfold rd toL
 rw [q6b (by simp;omega),y7b,x2b,H5c hij,h]
 rfl
theorem l6b {m:Nat->Nat} (h:T[j]? = some a):(toL m T j).set j ((m a:Nat):Int)=toL m T (j+1):=by
 obtain ⟨hl,rfl⟩:=q5b.1 h
 unfold toL
 rw [p5b hl,C5c,y1b,t5b _ _ (by simp;omega),show T.length-j=(T.length-(j+1))+1 by omega,v3b]
 have:j-((T.take j).map fun a=>((m a:Nat):Int)).length=0:=by simp;omega
 rw [this]
 simp
theorem P4b {m:Nat->Nat} (h:T[j]? = some a):E1a m (T.take (j+1))=E1a m (T.take j) ++ (if m a ≠ a then [(a:Int),(m a:Int)] else []):=by
 obtain ⟨hl,rfl⟩:=q5b.1 h
 unfold E1a
 rw [p5b hl,List.flatMap_append,z4b,List.flatMap_nil,C7c]
theorem k3a {m:Nat->Nat}:∀ {T:List Nat},(E1a m T).length<=2 * T.length
 | []=>by simp [E1a]
 | a :: r=>by
  have:=k3a (m:=m) (T:=r);unfold E1a at this ⊢;rw [z4b,w2b,A5c];have h2:(if m a ≠ a then [(a:Int),(m a:Int)] else []).length<=2:=by split <;> simp
  omega
theorem g0b {m:Nat->Nat} (h:T[i]? = some a):rd (T.map fun a=>((m a:Nat):Int)) i=some ((m a:Nat):Int):=by
 simp [rd,h]
end Hp
namespace Hp
def R2a (f:Int->Int) (A:List Int) (j:Nat):List Int:=(A.take j).map f ++ List.replicate (A.length-j) 0
theorem N3b (f:Int->Int) (A:List Int):R2a f A 0=List.replicate A.length 0:=by simp [R2a]
theorem U8b (f:Int->Int) (A:List Int):R2a f A A.length=A.map f:=by simp [R2a]
theorem S5b {f:Int->Int} (h:j<=A.length):(R2a f A j).length=A.length:=by
 simp [R2a]
 omega
theorem X0b {f:Int->Int} (h:rd A j=some x):(R2a f A j).set j (f x)=R2a f A (j+1):=by
 unfold rd at h
 obtain ⟨hl,rfl⟩:=q5b.1 h
 unfold R2a
 rw [p5b hl,C5c,y1b,t5b _ _ (by simp;omega),show A.length-j=(A.length-(j+1))+1 by omega,v3b]
 have:j-((A.take j).map f).length=0:=by simp;omega
 rw [this]
 simp
theorem M7b {f:Int->Int} (h:rd A j=some x) (h0:f x=0):R2a f A (j+1)=R2a f A j:=by
 unfold rd at h
 obtain ⟨hl,rfl⟩:=q5b.1 h
 unfold R2a
 rw [p5b hl,C5c,y1b,show A.length-j=(A.length-(j+1))+1 by omega,v3b]
 simp [h0]
def a0a:List Int->Int->Int->Int
 | a :: b :: r,x,cur=>a0a r x (if a=x then b else cur)
 | _,_,cur=>cur
def N7a (Y P:List Int) (x:Int):Int:=if Y.contains x then a0a P x x else 0
theorem b4a:∀ {T:List Nat} {m:Nat->Nat} {a:Nat} {cur:Int},a ∉ T->a0a (E1a m T) a cur=cur
 | [],_,_,_,_=>rfl
 | b :: T,m,a,cur,h=>by
  have hb:b ≠ a:=fun e=>h (by simp [e])
  have ht:a ∉ T:=fun e=>h (by simp [e])
  have ih:=b4a (m:=m) (cur:=cur) ht;unfold E1a at ih ⊢;rw [z4b]
  by_cases e:m b=b
  . rw [H4c (by simp [e])];exact ih
  rw [H5c e];show a0a _ _ (if (b:Int)=(a:Int) then _ else _)=cur;rw [H4c (by omega)];exact ih
theorem k8a:∀ {T:List Nat} {m:Nat->Nat} {a:Nat},T.Nodup->a ∈ T->a0a (E1a m T) a a=((m a:Nat):Int)
 | [],_,_,_,h=>by cases h
 | b :: T,m,a,hn,h=>by
  obtain ⟨d1,d2⟩:=C2c.1 hn
  by_cases eb:b=a
  . subst eb;unfold E1a;rw [z4b]
    by_cases e:m b=b
    . rw [H4c (by simp [e])];have:=b4a (m:=m) (cur:=(b:Int)) d1;unfold E1a at this;rw [C1c,this,e]
    rw [H5c e];show a0a _ _ (if (b:Int)=(b:Int) then _ else _)=_;rw [H5c rfl];exact b4a d1
  have ht:a ∈ T:=by
   rcases E6c.1 h with rfl | h
   . exact absurd rfl eb
   exact h
  have ih:=k8a (m:=m) d2 ht;unfold E1a at ih ⊢;rw [z4b]
  by_cases e:m b=b
  . rw [H4c (by simp [e])];exact ih
  rw [H5c e];show a0a _ _ (if (b:Int)=(a:Int) then _ else _)=_;rw [H4c (by omega)];exact ih
theorem O3b {P:List Int} {cur a b:Int} (ha:rd P k=some a) (hb:rd P (k+1)=some b):a0a (P.drop k) x cur=a0a (P.drop (k+2)) x (if a=x then b else cur):=by
 unfold rd at ha hb
 obtain ⟨h1,rfl⟩:=q5b.1 ha
 obtain ⟨h2,rfl⟩:=q5b.1 hb
 rw [q8b h1,q8b h2]
 rfl
theorem Q5b {P:List Int} {cur:Int} (h:P.length<=k+1):a0a (P.drop k) x cur=cur:=by
 have hl:(P.drop k).length<=1:=by simp;omega
 generalize P.drop k=Q at hl
 match Q,hl with
 | [],_=>rfl
 | [_],_=>rfl
 | _ :: _ :: _,hl=>simp at hl
end Hp
end Go.Proofs.YtdokmmhjmclmnaaGreat
