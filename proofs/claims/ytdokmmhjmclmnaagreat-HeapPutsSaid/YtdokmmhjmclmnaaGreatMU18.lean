/- Part 18 of a proof. -/
import Derived.Test.YtdokmmhjmclmnaaGreatMU17
set_option linter.unusedSimpArgs false
set_option linter.unusedVariables false
set_option linter.unusedSectionVars false
set_option linter.unnecessarySimpa false
set_option maxHeartbeats 4000000
set_option maxRecDepth 100000
namespace Go.Proofs.YtdokmmhjmclmnaaGreat
open Go.Proofs.Tryz
variable {W' w w' w0 wb:World} {B a b bx c ca cap ce cn f g i j k lb m n qc:Nat} {choice e t x:Int} {A W fs ks l o z:List Int} {D T Y:List Nat} {p p2 pa pe pn q:Option Addr} {d:Hd} {S S':Hp.Hs} {L:List Hp.Tl} {M:List (Nat × Int)} {s:Hp.Sc}
namespace Hp
def J5a (L:List Tl):List Int:=(F3a L).map fun t=>(t.a:Int)
theorem M2b (P Q:List Tl):J5a (P ++ Q)=J5a P ++ J5a Q:=by simp [J5a,F3a]
theorem c5b (h:okTag z t=true):(within 1 z.length t || B1a t)=true:=h
theorem T5a:∀ {s n:Nat} {L:List Tl},Lay s L n->s+3 * L.length<=n
 | _,_,[],h=>by have:_=_:=h;simp;omega
 | s,n,t :: r,h=>by
  have:=T5a h.2.2;have:=h.2.1;simp only [A5c];omega
theorem c4b {s:Nat} (h:Lay s L n):∀ y ∈ A6a L,y < n:=fun y hy=>by
 obtain ⟨t,ht,_,rfl⟩:=B4a.1 hy
 have:=h.mem ht
 omega
theorem Wf.v4a {ch:Nat->List Nat} (h:Wf S B L ch):∀ (P D:List Tl) (m a:Nat),L=D ++ P->Lay 17 D a->Lay a P S.words.length->P.length < m ->
    S.G6a m a (A6a D) (J5a D)=some (some (A6a L,J5a L))
  | _,_,0,_,_,_,_,hm=>by omega
  | [],D,m+1,a,hL,hD,hP,hm=>by
   have e:a=S.words.length:=hP;unfold Hs.G6a;rw [H5c (by omega),hL,C7c]
  | t :: P,D,m+1,a,hL,hD,hP,hm=>by
   obtain ⟨e,hk,hP⟩:=hP;have ht:t ∈ L:=by rw [hL];simp
   have hle:=h.parts.lay.mem ht;have hok:=h.parts.ok t ht;have ih:=fun hDt=>Wf.v4a h P (D ++ [t]) m (a+t.k) (by rw [hL];simp) hDt hP (by simpa using hm)
   have hDt:Lay 17 (D ++ [t]) (a+t.k):=Lay.app.2 ⟨a,hD,e,hk,rfl⟩;have ih:=ih hDt;unfold Hs.G6a;rw [H4c (by omega),F7a (by omega)];simp only [v9b,B5c]
   cases hf:t.fr with
   | true=>
    obtain ⟨h1,h2,h3⟩:=hok.free hf;rw [e] at h1 h2;rw [H5c h1,H4c (by omega),F7a (by omega)];simp only [B5c];rw [h2,H5c (by omega),z5b];have e1:A6a (D ++ [t])=A6a D:=by simp [A6a,hf]
    have e2:J5a (D ++ [t])=J5a D ++ [(a:Int)]:=by rw [M2b];simp [J5a,F3a,hf,e]
    rw [e1,e2] at ih;exact ih
   | false=>
    obtain ⟨h1,h2⟩:=hok.cell hf;rw [e] at h1 h2;have hw:=S6a h.fr.toFr h1;have hg:=Q8a h.fr.toFr h1;rw [H4c (by omega),H5c (c5b h1),hw.1];simp only [B5c];rw [<- h2,H5c (by omega)];have e1:A6a (D ++ [t])=Hs.insert a (A6a D):=by
     rw [W6a (fun y hy=>c4b hD y hy),D2a];simp [A6a,hf,e]
    have e2:J5a (D ++ [t])=J5a D:=by simp [J5a,F3a,hf]
    rw [e1,e2] at ih;exact ih
theorem Wf.walk {ch:Nat->List Nat} (h:Wf S B L ch):S.G6a S.fuel 17 [] []=some (some (S.taken,J5a L)):=by
 rw [h.taken]
 have:=T5a h.parts.lay
 exact h.v4a L [] S.fuel 17 rfl rfl h.parts.lay (by unfold Hs.fuel;omega)
theorem P5b {s:Nat} (h:Lay s L n):(J5a L).length<=n:=by
 have:=T5a h
 have:(J5a L).length<=L.length:=by
  unfold J5a F3a;rw [C6c];exact t4b _ _
 omega
theorem Wf.gaps {ch:Nat->List Nat} (h:Wf S B L ch):∀ x ∈ J5a L,Gap S.words x:=fun x hx=>by
 obtain ⟨t,ht,rfl⟩:=F7c.1 hx
 obtain ⟨h1,h2,h3,h4,h5,h6⟩:=h.parts.frees.part t ht
 exact ⟨t.a,t.k,rfl,by rw [F7a (by omega),h5],h2,h3⟩
theorem k0a {W:List Int}:∀ (F:List Tl) (l:Nat),l < W.length->(∀ i t,F[i]? = some t->ow W (bef l F i)=(t.a:Int))->ow W (bef l F F.length)=0 ->
    (∀ t ∈ F,17<=t.a/\3<=t.k/\t.a+t.k<=W.length/\ow W t.a=0/\ow W (t.a+1)=t.k /\ ∀ j,t.a+3<=j->j < t.a+t.k->ow W j=0) ->
    (∀ i t u,F[i]? = some t->F[i+1]? = some u->t.a+t.k < u.a)->Hp.N1a W (F.map fun t=>(t.a:Int)) l=true
  | [],l,hl,_,h0,_,_=>by
   have h0:ow W l=0:=h0;simp [Hp.N1a,F7a hl,h0]
  | t :: r,l,hl,h1,h0,hp,hf=>by
   obtain ⟨p1,p2,p3,p4,p5,p6⟩:=hp t (by simp);have e0:ow W l=(t.a:Int):=h1 0 t rfl;have ih:=k0a r (t.a+2) (by omega) (fun i u hu=>h1 (i+1) u hu) h0 (fun u hu=>hp u (by simp [hu])) (fun i u v hu hv=>hf (i+1) u v hu hv);have er:(Hp.rest W t.a t.k).all (fun x=>x == 0)=true:=by
    rw [A7c];intro x hx;unfold Hp.rest at hx;obtain ⟨j,hj,rfl⟩:=u9b hx;have hj':j < t.k-3/\t.a+3+j < W.length:=by
     simp only [A3c,List.length_drop] at hj;omega
    have:=p6 (t.a+3+j) (by omega) (by omega);simp only [ow,List.getD,r1b hj'.2,B6c] at this
    simpa using this
   simp only [E7c,Hp.N1a,z5b,F7a hl,e0,F7a (show t.a+1 < W.length by omega),p5,B6c,er,ih,F4c,F5c,beq_self_eq_true]
   cases r with
   | nil=>rfl
   | cons u r=>
    have:=hf 0 t u rfl rfl;simp only [E7c];have hne:(u.a:Int) ≠ ((t.a+t.k:Nat):Int):=by omega
    simpa using hne
theorem Wf.linked {ch:Nat->List Nat} (h:Wf S B L ch):Hp.N1a S.words (J5a L) 16=true:=by
 have hf:=h.parts.frees
 exact k0a (F3a L) 16 (by have:=h.lo;omega) hf.link hf.last hf.part hf.far
theorem Wf.Z3b {ch:Nat->List Nat} (h:Wf S B L ch):F5b S:=fun a ha=>
 ⟨_,_,_,_,h.tag_ ha,h.t2a ha,h.H0b ha,F7a (by have:=h.part ha;omega)⟩
theorem Wf.w8a {ch:Nat->List Nat} (h:Wf S B L ch):∀ (r:List Nat) (x:Int) (m:Nat) (seen:List Nat),l1b (ow S.words) x r->r.length < m->r.Nodup->(∀ a ∈ r,a ∉ seen/\a ∈ S.taken/\cz (ow S.words a) (fz (ow S.words) S.sizes a)=c) ->
    ∃ s,S.L9a c m x seen=some (some s)/\s.length=seen.length+r.length /\ ∀ a,a ∈ s ↔ a ∈ seen \/ a ∈ r
  | _,_,0,_,_,hm,_,_=>by omega
  | [],x,m+1,seen,hx,_,_,_=>by
   have e:x=0:=hx;subst e;exact ⟨seen,by simp [Hs.L9a],by simp,by simp⟩
  | a :: r,x,m+1,seen,hx,hm,hn,hr=>by
   obtain ⟨e,h0,hx⟩:=hx;subst e;obtain ⟨q1,q2,q3⟩:=hr a (by simp);obtain ⟨n1,n2⟩:=C2c.1 hn;have hl:=h.part q2;obtain ⟨s,i1,i2,i3⟩:=Wf.w8a h r (ow S.words (a+3)) m (Hs.insert a seen) hx (by simpa using hm) n2 fun b hb=>by
    obtain ⟨k1,k2,k3⟩:=hr b (by simp [hb]);refine ⟨fun hq=>?_,k2,k3⟩
    rcases (D6a a b seen).1 hq with e | hq
    . subst e;exact n1 hb
    exact k1 hq
   refine ⟨s, ?_, ?_, ?_⟩
   . unfold Hs.L9a;rw [H4c (by omega)];have g1:({ S with taken:=seen }:Hs).has (a:Int)=false:=by simp [Hs.has,q1]
     have g2:S.has (a:Int)=true:=by simp [Hs.has,q2]
     rw [g1,g2];simp only [F2c,Bool.or_false,x6b,H1c,z5b,d9a (h.tag_ q2) (h.t2a q2) (h.H0b q2),v9b,B5c];rw [H4c (by omega),F7a (by omega)];exact i1
   . rw [i2,a6a q1];simp only [A5c];omega
   intro b;rw [i3,D6a];simp only [E6c];exact ⟨fun h=>h.elim (fun h=>h.elim (fun h=>.inr (.inl h)) .inl) (fun h=>.inr (.inr h)),fun h=>h.elim (fun h=>.inl (.inr h)) (fun h=>h.elim (fun h=>.inl (.inl h)) .inr)⟩
theorem Wf.o9a {ch:Nat->List Nat} (h:Wf S B L ch):∀ (n c:Nat) (seen:List Nat),c+n=16->seen.length=(V8a ch c).length->(∀ a,a ∈ seen ↔ a ∈ V8a ch c) ->
    ∃ s,S.M9a n c seen=some (some s)/\s.length=(V8a ch 16).length
  | 0,c,seen,hc,hl,_=>by
   have e:c=16:=by omega
   subst e;exact ⟨seen,rfl,hl⟩
  | n+1,c,seen,hc,hl,hm=>by
   have hlo:=h.lo;have hp:=(h.chains.path c (by omega)).v;have hnd:=X6a h.chains (k:=c+1) (by omega);unfold V8a at hnd;obtain ⟨d1,d2,d3⟩:=y8b.1 hnd;have hsub:∀ a ∈ ch c,a ∈ S.taken:=fun a ha=>((h.chains.mem c (by omega) a).1 ha).1
   have hln:=C4a d2 hsub;obtain ⟨s,i1,i2,i3⟩:=h.w8a (c:=c) (ch c) (ow S.words c) (S.taken.length+1) seen hp (by omega) d2 fun a ha=>
    ⟨fun hs=>d3 a ((hm a).1 hs) a ha rfl,hsub a ha,((h.chains.mem c (by omega) a).1 ha).2⟩
   obtain ⟨s',j1,j2⟩:=Wf.o9a h n (c+1) s (by omega) (by rw [i2,hl];simp [V8a]) (fun a=>by rw [i3,hm];simp [V8a]);refine ⟨s', ?_,j2⟩;unfold Hs.M9a;rw [F7a (by omega)];simp only [v9b,B5c,i1];exact j1
theorem Wf.nodup {ch:Nat->List Nat} (h:Wf S B L ch):S.taken.Nodup:=h.up.imp fun h=>by omega
theorem Wf.chained {ch:Nat->List Nat} (h:Wf S B L ch):S.f9a=some true:=by
 obtain ⟨s,h1,h2⟩:=h.o9a 16 0 [] rfl rfl (by simp [V8a])
 unfold Hs.f9a
 rw [h1]
 simp only [v9b,B5c]
 rw [h2,W7b h.chains h.nodup]
 simp
end Hp
open Go.RowKit Go.Maps
theorem Row.words {base:Nat} (h:Row w base (some ⟨g,0,none⟩) c l):A3a w g l/\l.length<=c/\c<=9223372036854775807:=by
 rcases h.1 with ⟨hx,⟨e,_⟩ | ⟨g',cap,cur,e,h1,hg,h2,h3,h4,h5⟩⟩
 . injection e with e1
   cases e1
 injection e with e1 e2 e3
 injection e1 with e1
 injection e1 with e1 _ _
 subst e1 e3
 rw [Nat.mul_one] at h5
 refine ⟨⟨⟨cur.toList.drop l.length, ?_⟩,h.2⟩,h2,by unfold maxLen at h3;omega⟩
 rw [<- h5,t8b]
 exact hg
theorem d5b {P:Program} {cd:Code} {Q:Exit->Act->World->Prop} {act:Act} {W:World} {hb gw gm c2 c3 c4 m2 m3:Nat} {p3:Option Addr}
    (_:act.tmps[26]? = some (.agg #[.slice p2 m2 c2,.slice p3 m3 c3,.slice (some ⟨gw,0,none⟩) n c4,.map (some gm)])) (_:act.tmps[27]? = some (.pointer (some ⟨hb,0,none⟩))) (_:act.tmps[29]? = some (.pointer (some ⟨lb,0,none⟩)))
    (h:HAt W ⟨hb,gw,gm,c4,p2,c2,p3,c3⟩ { S with taken:=[] }) (e:Ext w W) (h0:W.cell? ⟨lb,0,none⟩=some (.pointer (some ⟨hb,0,none⟩))) (h1:W.cell? ⟨lb,1,none⟩=some (.slice none 0 0)) (fz:∀ k,W.frozen? ⟨lb,k,none⟩=false)
    (ho:(w.heap.size<=hb/\w.heap.size<=gw/\w.heap.size<=gm)/\(∀ b o,p2=some ⟨b,o,none⟩->w.heap.size<=b/\b < lb)/\(∀ b o,p3=some ⟨b,o,none⟩->w.heap.size<=b/\b < lb)/\w.heap.size<=lb/\hb < lb/\gw < lb/\gm < lb)
    (k:∀ W',LdAt w W' lb ⟨hb,gw,gm,c4,p2,c2,p3,c3⟩ { S with taken:=[] } (.slice none 0 0) none 0 []->((w.heap.size<=hb/\w.heap.size<=gw/\w.heap.size<=gm)/\(∀ b o,p2=some ⟨b,o,none⟩->w.heap.size<=b) /\ ∀ b o,p3=some ⟨b,o,none⟩->w.heap.size<=b)->cd.wp P Q act W'):cd.wp P Q act W:=by
  obtain ⟨⟨o1,o2,o3⟩,o4,o5,o6,o7,o8,o9⟩:=ho
  refine k W
   { toHAt:=h
     ext0:=e
     h0:=h0
     h1:=h1
     fz:=fz
     r:=Row.nil _ _
     lb0:=o6
     own0:=fun b hb=>by
      simp only [Hd.own,E6c,A9c,or_false] at hb;omega
     lbn:=fun hb=>by
      simp only [Hd.own,E6c,A9c,or_false] at hb;omega
     n:=fun b o e=>by cases e
     spn:=fun b o e=>⟨by have:=(o4 b o e).2;omega,fun _ e=>by cases e⟩
     opn:=fun b o e=>⟨by have:=(o5 b o e).2;omega,fun _ e=>by cases e⟩ } ⟨⟨o1,o2,o3⟩,fun b o e=>(o4 b o e).1,fun b o e=>(o5 b o e).1⟩
theorem c1b {d gb go wc:Nat} {ch:Nat->List Nat} (hs:SliceAt w p c S.sizes) (ho:SliceAt w q d S.order) (hw':SliceAt w (some ⟨gb,go,none⟩) wc S.words) (hp:0 < S.sizes.length \/ p=none) (hq:0 < S.order.length \/ q=none) (hw:Hp.Wf S B L ch) (he:Hp.G1a S.sizes S.order S.words.length=0) :
    Calls prog 16 #[.slice p S.sizes.length c,.slice q S.order.length d,.slice (some ⟨gb,go,none⟩) S.words.length wc] w (B4b w S):=by
  have few:=hw.fr.few;have hol:S.order.length<=1000000:=by have:=hw.fr.len;omega
  have hlo:=hw.lo;have hhi:=hw.hi;have hgl:=Hp.P5b hw.parts.lay;have HC:=hZ (he ▸ o3a (words:=(S.words.length:Int)) hs ho hq hol);have HS:=hZ hs;have HO:=hZ ho;have HW:=hZ hw';have HF:=hZ hw;clear hs ho he hw' hw;have mixed:prog.follows .mixedOrders=true:=by kernel_rfl
  have hmm:=@run_makeMap prog;go_enter func16,ntmps16;go_upto_region 4 with (go_at_call 59;refine m4_ (HC.out) fun w1 hb1 hc1 hf1 hs1=>?_)
  clear hc1 hf1 hs1
  go_upto_region 5 with (first
   | (go_at_call_of 60 (Value.slice p S.sizes.length c);refine (G7a (HS.out.ext (exx)) hp (by omega)).mono ?_;rintro e w2 ⟨p2,c2,rfl,hR2,hb2,hg2⟩)
   | (go_at_call_of 60 (Value.slice q S.order.length d);refine (G7a (HO.out.ext (exx)) hq hol).mono ?_;rintro e w3 ⟨p3,c3,rfl,hR3,hb3,hg3⟩)
   | (go_at_call 60;refine (G7a (HW.out.ext (exx)) (.inl (by omega)) (by omega)).mono ?_;rintro e w4 ⟨p4,c4,rfl,hR4,hb4,hg4⟩;obtain ⟨g4,rfl⟩:=hg4 (by omega)))
  have q1:=hb1.le;have q2:=hb2.le;have q3:=hb3.le;have q4:=hb4.le
  (try simp at q2)
  (try simp at q3)
  (try simp at q4)
  have r4:=hR4.far rfl
  (try simp at r4)
  have W4:=hR4.words;have l4:=hR4.lt rfl;refine d5b (S:=S) (w:=w) (by rfl) (by rfl) (by rfl) ?hat ?ext ?h0 ?h1 ?fz ?low ?rest
  case ext=>exact exx
  case h0=>go_simp
  case h1=>go_simp
  case fz=>intro k;go_simp
  case low=>
   refine ⟨⟨?_, ?_, ?_⟩,fun b o e=>?_,fun b o e=>?_, ?_, ?_, ?_, ?_⟩
   . omega
   . omega
   . omega
   . have h1:=hR2.far e;have h2:=hR2.lt e
     (try simp at h1)
     omega
   . have h1:=hR3.far e;have h2:=hR3.lt e
     (try simp at h1)
     omega
   . omega
   . omega
   . omega
   omega
  case hat=>
   exact
    { c0:=by go_simp
      c1:=by go_simp
      c2:=by go_simp
      c3:=by go_simp
      f2:=by go_simp
      sizes:=(hR2.at_).ext (exx)
      order:=(hR3.at_).ext (exx)
      words:=W4.1.ext (exx)
      le:=W4.2.1
      cap:=W4.2.2
      map:=by
       refine MapAt.ext (k7a w4 _ ?_) ?_
       . (simp;done)
       exact exx
      below:=by simp
      apart1:=by simp only [ne_eq];omega
      apart2:=by simp only [ne_eq];omega
      apart3:=by simp only [ne_eq];omega
      far1:=fun b o e hm=>by
       have h1:=hR2.far e;have h2:=hR2.lt e
       (try simp at h1)
       simp only [Hd.own,E6c,A9c,or_false] at hm;omega
      far2:=fun b o e hm=>by
       have h1:=hR3.far e;have h2:=hR3.lt e
       (try simp at h1)
       simp only [Hd.own,E6c,A9c,or_false] at hm;omega
      pos:=HF.out.fr.pos
      small:=by simp only;omega
      few:=few
      old1:=fun b o e=>by
       have h2:=hR2.lt e;simp;omega
      old2:=fun b o e=>by
       have h2:=hR3.lt e;simp;omega }
  case rest=>
   clear hmm hR2 hR3 hR4 hb1 hb2 hb3 hb4 hg2 hg3 hg4 q1 q2 q3 q4 r4 W4 l4 HC HS HO HW hp hq;intro w9 H9 lo;have N0:=hZ H9;have LO:=hZ lo;clear H9 lo;have WK:=hZ HF.out.walk
   go_wp2_with (first
    | go_loud (go_at_call 61;refine (W2b N0.out WK.out).mono ?_;rintro e w10 ⟨_,⟨hno,_⟩ | ⟨T,G,p,k,hR,rfl,hL⟩⟩;cases hno;cases hR;have N:=hZ (show LdAt w w10 _ _ S _ _ _ _ from hL);clear N0 hL)
    | go_loud (go_at_call 62;refine (z5a N.out HF.out.gaps (by omega) (by omega) HF.out.linked).mono ?_;rintro e w11 ⟨rfl,E11⟩;have N1:=hZ (N.out.ext E11);clear N E11)
    | (go_at_call 63;refine (t9a N1.out HF.out).mono ?_;rintro e w12 ⟨rfl,E12⟩;have N2:=hZ (N1.out.ext E12);clear N1 E12)
    | (go_at_call 64;refine (B3b N2.out HF.out).mono ?_;rintro e w13 ⟨rfl,E13⟩;have N3:=hZ (N2.out.ext E13);clear N2 E13)
    | (go_at_call 65;refine (l2a N3.out HF.out.Z3b (by omega) HF.out.chained).mono ?_;rintro e w14 ⟨rfl,E14⟩;have N4:=hZ (N3.out.ext E14);have h0:=N4.out.h0;clear N3 E14))
   go_ret2
   exact ⟨_,rfl,N4.out.toHAt,N4.out.own0,N4.out.ext0,LO.out.2.1,LO.out.2.2⟩
def g1a (w:World) (l:List Int) (e:Ending) (w':World):Prop:=∃ p c,e = .returned (.slice p l.length c)/\Row w' w.heap.size p c l/\Ext w w'/\(0 < l.length \/ p=none)
theorem p2a (h:SliceAt w p c l) (hp:p=none->c=0) (hl:l.length<=1000000) :
    Calls prog 17 #[.slice p l.length c] w (g1a w l):=by
  obtain ⟨i0,hi,hz0,hz1,hz2⟩:=info_parts (show (prog.info? 3).map (fun i=>(i.zero,i.size,i.bytes))=some (some (.int .i64 0),1,8) from by kernel_rfl);have main:∀ ad:Addr,p=some ad->(∀ j u,(ints l)[j]? = some u->w.cell? (ad.add j)=some u)->Calls prog 17 #[.slice p l.length c] w (g1a w l):=by
   rintro ad rfl hc;have HC:=hZ hc;have WF:=hZ h.wf;clear h hc hp;go_enter func17,ntmps17
   go_wp2_with (at_builtin;refine Go.wpList_append_own _ rfl _ _ 22 rfl w.heap.size 3 i0 (.int .i64 0) 1 8 underlying22 hi hz0 hz1 hz2 rfl (by decide) _ 0 [] rfl (A0c w _ _ _) ad l.length c (ints l) rfl ?qc1 ?qc2 ?qc3 ?qc4 ?qc5 ?qc6 ?_)
   case qc1=>simp [ints]
   case qc2=>exact HC.out
   case qc3=>intro u hu;obtain ⟨x,_,rfl⟩:=F7c.1 hu;rfl
   case qc4=>unfold maxLen;omega
   case qc5=>omega
   case qc6=>omega
   intro v' w1 hown hgrow hnil;go_wp2;go_returns;have hE:Ext w w1:=((Below.refl _ w)).grown hgrow (by simp) (by intro k hk;simp [Value.ownBlock] at hk)
   rcases hown.2 with ⟨rfl,hz⟩ | ⟨g,cap,cur,rfl,h1,h2⟩
   . have hz':l.length=0:=by omega
     have:l=[]:=p8b hz';subst this;exact ⟨none,0,rfl,Row.nil _ _,hE,.inr rfl⟩
   refine ⟨some ⟨g,0,none⟩,cap,by simp,⟨by simpa using hown,WF.out⟩,hE,.inl ?_⟩
   rcases Nat.eq_zero_or_pos l.length with h0 | h0
   . have:=hnil.2 (p8b h0)
     cases this
   exact h0
  by_cases h0:0 < l.length
  . obtain ⟨b,o,rfl,hb,hc⟩:=h.cells h0;refine main _ rfl fun j u hj=>?_
    obtain ⟨hj1,hj2⟩:=q5b.1 hj;have hj3:j < l.length:=by simpa [ints] using hj1
    rw [G8c,hc j l[j] (r1b hj3),<- hj2];simp [ints]
  have hl0:l=[]:=p8b (by omega)
  cases p with
  | some ad=>exact main ad rfl fun j u hj=>by subst hl0;simp [ints] at hj
  | none=>
   have:=hp rfl;subst this hl0;clear h hp main h0;go_enter func17,ntmps17;go_wp2;go_returns;exact ⟨none,0,rfl,Row.nil _ _,exx,.inr rfl⟩
namespace Nd
open Hp
def toA (A N:List Int) (k:Int):Int:=if k < 0 then A.getD (-1-k).toNat 0 else N.getD k.toNat 0
def putE:Hs->List (Int × Int)->List Int->Option (Int × List Int × Hs)
 | S,[],A=>some (0,A,S)
 | S,v :: r,A=>do
  let (a,e,S) <- S.end' v.1 v.2
  if e ≠ 0 then some (e,A,S) else putE S r (A ++ [a])
def putN (A:List Int):Hs->List (Int × List Int)->List Int->Option (Int × List Int × Hs)
 | S,[],N=>some (0,N,S)
 | S,q :: r,N=>do
  let (a,e,S) <- S.make q.1 (q.2.map (toA A N))
  if e ≠ 0 then some (e,N,S) else putN A S r (N ++ [a])
def put (d:Dia) (S:Hs):Option (Int × Int × Hs):=do
 let (e,A,S) <- putE S d.ends []
 if e ≠ 0 then some (0,e,S) else
 let (e,N,S) <- putN A S d.nodes []
 if e ≠ 0 then some (0,e,S) else some (toA A N d.root,0,S)
end Nd
namespace Nd
open Hp
variable {d:Dia}
theorem drop_cons {α:Type} {l:List α} {v:α} (h:l[i]? = some v):l.drop i=v :: l.drop (i+1):=by
 have hi:i < l.length:=by
  rcases G3c i l.length with h' | h'
  . exact h'
  rw [s9b h'] at h
  cases h
 rw [q8b hi]
 rw [r1b hi] at h
 rw [D3c h]
end Nd
namespace Nd
open Hp
theorem x2a {B:Nat}:∀ (E:List (Int × Int)) (S:Hs) (A:List Int),Hp.Good S B->(∀ v ∈ E,0<=v.1) -> ∃ e A' S',putE S E A=some (e,A',S')/\Hp.Good S' B/\Grown S S'/\(e=0->A'.length=A.length+E.length)
 | [],S,A,h,_=>⟨0,A,S,rfl,h,Grown.refl S,fun _=>rfl⟩
 | v :: r,S,A,h,hv=>by
  obtain ⟨a,e,S1,h1,g1,k1⟩:=f5a h (fault:=v.1) (n:=v.2) (hv v (by simp))
  by_cases e0:e=0
  . obtain ⟨e2,A',S',h2,g2,k2,l2⟩:=x2a r S1 (A ++ [a]) g1 (fun v hv'=>hv v (by simp [hv']));refine ⟨e2,A',S', ?_,g2,k1.trans k2,fun h0=>by rw [l2 h0];simp;omega⟩;simp [putE,h1,e0,h2]
  exact ⟨e,A,S1,by simp [putE,h1,e0],g1,k1,fun h0=>absurd h0 e0⟩
theorem w5a {B:Nat} {A:List Int}:∀ (E:List (Int × List Int)) (S:Hs) (N:List Int),Hp.Good S B -> ∃ e N' S',putN A S E N=some (e,N',S')/\Hp.Good S' B/\Grown S S'/\(e=0->N'.length=N.length+E.length)
 | [],S,N,h=>⟨0,N,S,rfl,h,Grown.refl S,fun _=>rfl⟩
 | q :: r,S,N,h=>by
  obtain ⟨a,e,S1,h1,g1,k1⟩:=Z7a h q.1 (q.2.map (toA A N))
  by_cases e0:e=0
  . obtain ⟨e2,N',S',h2,g2,k2,l2⟩:=w5a (A:=A) r S1 (N ++ [a]) g1;refine ⟨e2,N',S', ?_,g2,k1.trans k2,fun h0=>by rw [l2 h0];simp;omega⟩;simp [putN,h1,e0,h2]
  exact ⟨e,N,S1,by simp [putN,h1,e0],g1,k1,fun h0=>absurd h0 e0⟩
end Nd
namespace Hp
def wsum (S:Hs) (j:Nat):Nat:=widths (ow S.words) S.sizes (S.taken.take j)
theorem R3b (h:S.taken[j]? = some a):wsum S (j+1)=wsum S j+wz S.sizes (ow S.words a):=by
 obtain ⟨hl,rfl⟩:=q5b.1 h
 unfold wsum
 rw [p5b hl,Q1a]
 simp [widths]
theorem o4b {ch:Nat->List Nat} (h:Wf S B L ch) (j:Nat):wsum S j<=100000:=by
 have h1:=h.Q4a
 have h2:=h.hi
 have h3:=Q1a (ow S.words) S.sizes (S.taken.take j) (S.taken.drop j)
 rw [t8b] at h3
 unfold wsum
 omega
end Hp
end Go.Proofs.YtdokmmhjmclmnaaGreat
