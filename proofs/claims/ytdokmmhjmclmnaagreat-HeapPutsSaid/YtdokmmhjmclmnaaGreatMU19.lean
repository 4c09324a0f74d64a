/- Part 19 of a proof. -/
import Derived.Test.YtdokmmhjmclmnaaGreatMU18
set_option linter.unusedSimpArgs false
set_option linter.unusedVariables false
set_option linter.unusedSectionVars false
set_option linter.unnecessarySimpa false
set_option maxHeartbeats 4000000
set_option maxRecDepth 100000
namespace Go.Proofs.YtdokmmhjmclmnaaGreat
open Go.Proofs.Tryz
variable {W' w w' w0 wb:World} {B a b bx c ca cap ce cn f g i j k lb m n qc:Nat} {choice e t x:Int} {A W fs ks l o z:List Int} {D T Y:List Nat} {p p2 pa pe pn q:Option Addr} {d:Hd} {S S':Hp.Hs} {L:List Hp.Tl} {M:List (Nat × Int)} {s:Hp.Sc}
open Go
section
variable {P:Program} {ops:Array Oper} {Q:Exit->Act->World->Prop} {md:Region.Mode} {S S':World->Prop} {R:World->World->Prop}
theorem B7a.weaken (hSS:∀ w,S' w->S w) (hcl:∀ a b,S' a->R a b->S' b):∀ {fuel:Nat} {listed:Array Bool} {a:Act} {w:World},S' w->B7a P md ops Q S' R fuel listed a w->B7a P md ops Q S R fuel listed a w
 | 0,_,_,_,hw,h=>⟨h.1,fun w' r _=>h.2 w' r (hcl _ _ hw r)⟩
 | _+1,_,_,_,hw,h=>fun w' r _=>by
  obtain ⟨h1,h2⟩:=h w' r (hcl _ _ hw r);refine ⟨h1,fun i hi=>wpOp_mono ?_ (h2 i hi)⟩;rintro a' w'' ⟨hs,hk⟩;exact ⟨hSS _ hs,hk.weaken hSS hcl hs⟩
theorem v7a {oi:Oper} {fuel:Nat} {listed:Array Bool} {a:Act} (V:Value->World->Prop) (hR:∀ w,R w w) (hT:∀ a b c,R a b->R b c->R a c) (hi:ops[i]? = some oi)
    (hr0:i ∈ Region.ready md ops listed) (hr:∀ j ∈ Region.ready md ops listed,j=i) (hw:Region.wanted oi (yielded ops a.tmps)=true)
    (hrun:∀ w',R w w'->S w'->(∃ f args,(execOp a.eval oi).run P w' = .ok (.enter f args) w'/\Calls P f args w' fun e w''=>∃ v,e = .returned v/\V v w'') \/ ∃ v w'',(execOp a.eval oi).run P w' = .ok (.value v) w''/\V v w'')
    (hVS:∀ v w'',V v w'' -> ∀ W,R w'' W->S W)
    (h:∀ v w'',V v w''->B7a P md ops Q (fun W=>R w'' W) R fuel (listed.setIfInBounds i true) (a.put oi.dst v) w''):B7a P md ops Q S R (fuel+1) listed a w:=by
  intro w' r s;refine ⟨fun e=>(by rw [e] at hr0;cases hr0),fun j hj=>?_⟩
  obtain rfl:j=i:=hr j hj;have key:∀ v w'',V v w''->S w''/\B7a P md ops Q S R fuel (listed.setIfInBounds j true) (a.put oi.dst v) w'':=fun v w'' hv=>
   ⟨hVS v w'' hv _ (hR _),(h v w'' hv).weaken (hVS v w'' hv) (fun x y h1 h2=>hT _ _ _ h1 h2) (hR _)⟩
  unfold Go.wpOp;simp only [hi];rw [H5c hw];refine .inl ?_;unfold Oper.wp
  rcases hrun w' r s with ⟨f,args,he,hc⟩ | ⟨v,w'',he,hv⟩
  . rw [he];refine hc.mono ?_;rintro e w'' ⟨v,rfl,hv⟩;exact key v w'' hv
  rw [he];exact key v w'' hv
end
section
variable {P:Program} {ops:Array Oper} {Q:Exit->Act->World->Prop} {md:Region.Mode} {R:World->World->Prop}
def i7a (md:Region.Mode) (ops:Array Oper) (k:Nat) (o:Oper) (b:Bool) (l:List Oper):Bool:=
 o.after.all (fun e=>!Region.binds md e || decide (e.on < k)) &&
 (if b then l.all (fun oj=>oj.after.any fun e=>Region.binds md e && decide (k<=e.on)) else l.all (fun oj=>oj.after.any (fun e=>Region.binds md e && e.on == k) || o.apart ops oj))
def t7a (md:Region.Mode) (ops:Array Oper):List Oper->List Bool->Nat->Bool
 | [],[],_=>true
 | o :: l,b :: r,k=>i7a md ops k o b l && t7a md ops l r (k+1)
 | _,_,_=>false
structure Upto (ops:Array Oper) (k:Nat) (listed:Array Bool):Prop where
 size:listed.size=ops.size
 at_:∀ (j:Nat) (d:Bool),j < ops.size->listed.getD j d=decide (j < k)
theorem Upto.set {listed:Array Bool} (h:Upto ops k listed):Upto ops (k+1) (listed.setIfInBounds k true):=by
 refine ⟨by simp [h.size],fun j d hj=>?_⟩
 by_cases e:k=j
 . subst e;have:k < listed.size:=by rw [h.size];exact hj
   simp [this]
 rw [getD_set_ne d e,h.at_ j d hj]
 have:(j < k+1)=(j < k):=by
  apply propext;omega
 simp only [this]
inductive Plan (P:Program) (ops:Array Oper) (Q:Exit->Act->World->Prop) (R:World->World->Prop):(World->Prop)->List Oper->List Bool->Act->World->Prop
 | done {S:World->Prop} {a:Act} {w:World} (h:∀ w',R w w'->S w'->Q .normal a w'):Plan P ops Q R S [] [] a w
 | take {S:World->Prop} {o:Oper} {v:Value} {l:List Oper} {r:List Bool} {a:Act} {w:World} (hy:F1a P ops S R o v a) (h:Plan P ops Q R S l r (a.put o.dst v) w):Plan P ops Q R S (o :: l) (false :: r) a w
 | run {S:World->Prop} {o:Oper} {l:List Oper} {r:List Bool} {a:Act} {w:World} (V:Value->World->Prop) (hw:Region.wanted o (yielded ops a.tmps)=true)
     (hrun:∀ w',R w w'->S w'->(∃ f args,(execOp a.eval o).run P w' = .ok (.enter f args) w'/\Calls P f args w' fun e w''=>∃ v,e = .returned v/\V v w'') \/ ∃ v w'',(execOp a.eval o).run P w' = .ok (.value v) w''/\V v w'')
     (hVS:∀ v w'',V v w'' -> ∀ W,R w'' W->S W) (h:∀ v w'',V v w''->Plan P ops Q R (fun W=>R w'' W) l r (a.put o.dst v) w''):Plan P ops Q R S (o :: l) (true :: r) a w
theorem q2a {α:Type} {p:α->Bool} {xs:Array α} (h:xs.any p=true):∃ x,x ∈ xs/\p x=true:=by
 obtain ⟨i,hi,h⟩:=Array.any_eq_true.1 h
 exact ⟨xs[i],by simp,h⟩
theorem O6a {o:Oper} {b:Bool} {l:List Oper} {listed:Array Bool} (hk:ops[k]? = some o) (hu:Upto ops k listed) (h:i7a md ops k o b l=true):k ∈ Region.ready md ops listed:=by
 have hks:=(q4b.1 hk).1
 simp only [i7a,B8c] at h
 refine mem_ready.2 ⟨by rw [hu.at_ k _ hks];simp,o,hk,fun e he hb=>?_⟩
 have:=p6b.1 h.1 e he
 rw [hb] at this
 simp only [F2c,F3c,A1c] at this
 rw [hu.at_ e.on _ (by omega)]
 simpa using this
theorem Plan.anyR (hR:∀ w,R w w) (hT:∀ a b c,R a b->R b c->R a c) (hs:Region.noSelect ops=true) (hQ:∀ c a d v w,Q (.panic c) (Act.put a d v) w->Q (.panic c) a w) {S:World->Prop} {l:List Oper} {pl:List Bool} {a:Act} (h:Plan P ops Q R S l pl a w) :
    ∀ {k:Nat} {listed:Array Bool},(∀ j:Nat,l[j]? = ops[k+j]?)->Upto ops k listed->t7a md ops l pl k=true->B7a P md ops Q S R l.length listed a w:=by
  induction h with
  | done h=>
   intro k listed hl hu _;refine A0a ?_ h _;refine p7b.2 fun j hj=>?_
   obtain ⟨h1,o,h2,_⟩:=mem_ready.1 hj;have hjs:=(q4b.1 h2).1;rw [hu.at_ j _ hjs] at h1;have h1:¬ j < k:=by simpa using h1
   have:=hl (j-k);rw [show k+(j-k)=j by omega,h2] at this;simp at this
  | @take S o v l r a w hy _ ih=>
   intro k listed hl hu hb;simp only [t7a,B8c] at hb;have hi:ops[k]? = some o:=by simpa using (hl 0).symm
   have hl':∀ j:Nat,l[j]? = ops[k+1+j]? := fun j=>by have:=hl (j+1);rw [show k+(j+1)=k+1+j by omega] at this;simpa using this
   refine U3a hR hT hi (Region.noSelect_spec hs) (fun c a w h=>hQ c a _ _ w h) _ listed a w (fun j oj hoj hne hun hno=>?_) (O6a hi hu hb.1) hy (ih hl' hu.set hb.2);have hjs:=(q4b.1 hoj).1;rw [hu.at_ j _ hjs] at hun;have hun:¬ j < k:=by simpa using hun
   have hm:oj ∈ l:=by
    refine u1b (i:=j-(k+1)) ?_;rw [hl',show k+1+(j-(k+1))=j by omega];exact hoj
   have h1:=hb.1;simp only [i7a,B8c,x6b,H1c] at h1;have h2:=A7c.1 h1.2 oj hm;simp only [D4c] at h2
   rcases h2 with h2 | h2
   . obtain ⟨e,he,h3⟩:=q2a h2;simp only [B8c,beq_iff_eq] at h3;exact absurd h3.2 (hno e he h3.1)
   exact h2
  | @run S o l r a w V hw hrun hVS _ ih=>
   intro k listed hl hu hb;simp only [t7a,B8c] at hb;have hi:ops[k]? = some o:=by simpa using (hl 0).symm
   have hl':∀ j:Nat,l[j]? = ops[k+1+j]? := fun j=>by have:=hl (j+1);rw [show k+(j+1)=k+1+j by omega] at this;simpa using this
   refine v7a V hR hT hi (O6a hi hu hb.1) (fun j hj=>?_) hw hrun hVS (fun v w'' hv=>ih v w'' hv hl' hu.set hb.2);obtain ⟨hun,oj,hoj,hall⟩:=mem_ready.1 hj;have hjs:=(q4b.1 hoj).1;rw [hu.at_ j _ hjs] at hun;have hun:¬ j < k:=by simpa using hun
   apply r0b;intro hne;have hm:oj ∈ l:=by
    refine u1b (i:=j-(k+1)) ?_;rw [hl',show k+1+(j-(k+1))=j by omega];exact hoj
   have h1:=hb.1;simp only [i7a,B8c,H2c] at h1;obtain ⟨e,he,h3⟩:=q2a (A7c.1 h1.2 oj hm);simp only [B8c,A1c] at h3;have h4:=hall e he h3.1
   rcases G3c e.on ops.size with h5 | h5
   . rw [hu.at_ e.on _ h5] at h4;have h4:e.on < k:=by simpa using h4
     omega
   have:listed.size<=e.on:=by rw [hu.size];exact h5
   simp [Array.getD,show ¬ e.on < listed.size by omega] at h4
theorem W3a {S:World->Prop} {id:Nat} {l:List Oper} {a:Act} (pl:List Bool) (hm:P.follows .mixedOrders=true) (hR:∀ w,R w w) (hT:∀ a b c,R a b->R b c->R a c) (hs:Region.noSelect l.toArray=true)
    (hQ:∀ c a d v w,Q (.panic c) (Act.put a d v) w->Q (.panic c) a w) (hb:t7a .any l.toArray l pl 0=true) (hS:S w.drew)
    (h:∀ ops,ops=l.toArray->Plan P ops Q R S l pl a w.drew):(Code.region id l.toArray true).wp P Q a w:=by
  refine D4a hm hR hS ?_;exact (h _ rfl).anyR hR hT hs hQ (k:=0) (fun j=>by simp) ⟨by simp,fun j d hj=>by
   have:j < l.length:=by simpa using hj
   simp [Array.getD,this]⟩ hb
end
section
variable {P:Program} {ops L:Array Oper} {Q:Exit->Act->World->Prop} {R:World->World->Prop} {S:World->Prop} {o:Oper} {v:Value} {l:List Oper} {r:List Bool} {a:Act} {w:World}
theorem tkQ (hops:RowKit.Hid (ops=L)) (hy:∀ w,S w->(execOp a.eval o).run P w = .ok (.value v) w) (h:Plan P ops Q R S l r (a.put o.dst v) w) (hw:Region.wanted o (yielded L a.tmps)=true:=by rfl):Plan P ops Q R S (o :: l) (false :: r) a w:=Plan.take (Or.inl (Or.inl ⟨by rw [hops.out];exact hw,hy⟩)) h
theorem tkP {q:Prop} (hops:RowKit.Hid (ops=L)) (h:q) (hy:∀ w,S w->(execOp a.eval o).run P w = .ok (.value v) w:=by intro w q;go_simp;try with_reducible rfl) (e:Plan P ops Q R S l r (a.put o.dst v) w=q:=by first | (simp only [u2b,s3b,s4b,Act.put,q2b,w6b,w7b];exact rfl) | exact rfl) (hw:Region.wanted o (yielded L a.tmps)=true:=by rfl):Plan P ops Q R S (o :: l) (false :: r) a w:=Plan.take (Or.inl (Or.inl ⟨by rw [hops.out];exact hw,hy⟩)) (e.mpr h)
end
open Go.RowKit Go.Maps
theorem W1a {S:Hp.Hs} {tag:Int} {l:List Int} (hs:S.words.length<=1000000):∀ {n a r:Nat},S.H0a tag l n a=some r->r<=1000000
 | n,a,r,h=>by
  rcases Z5a h with ⟨_,rfl⟩ | ⟨_,n',t,f,hn,ht,_,h1⟩
  . omega
  rcases h1 with ⟨_,_,rfl⟩ | ⟨_,a',_,h2⟩
  . have:=G0a ht;omega
  subst hn;exact W1a hs h2
 termination_by n=>n
theorem V9a {wide:Nat}:∀ {n link r:Nat} {W W':List Int},W.length<=1000000->Hp.Hs.F2a W wide n link=some (r,W')->r<=1000000
 | n,link,r,W,W',hs,h=>by
  obtain ⟨n',a,hn,_,hq⟩:=G9a h
  rcases hq with ⟨_,rfl,_⟩ | ⟨_,v,next,hv,_,hq⟩
  . omega
  have hv:=G0a (S3a hv).1
  rcases hq with ⟨_,rfl,_⟩ | ⟨_,_,rfl,_⟩ | ⟨_,_,hq⟩
  . omega
  . omega
  subst hn;exact V9a hs hq
 termination_by n=>n
theorem m0a {tag:Int} {r:Nat} (hs:S.words.length<=1000000) (h:S.look tag l=some r):r<=1000000:=by
 unfold Hp.Hs.look at h
 simp only [v9b,s0b] at h
 obtain ⟨_,_,_,_,h⟩:=h
 exact W1a hs h
theorem y6a {tag:Int} {r:Nat} (hs:S.words.length<=1000000) (h:S.add tag l=some (r,S')):r<=1000000:=by
 obtain ⟨a0,hL,hq⟩:=H5b h
 rcases hq with ⟨_,rfl,_⟩ | ⟨_,k,a,W,_,hT,hq⟩
 . exact m0a hs hL
 have:=V9a hs hT
 rcases hq with ⟨rfl,rfl,_⟩ | ⟨_,rfl,_⟩ <;> omega
theorem o5a {r:Nat} {a:Int} (hr:r<=1000000) (h:Hp.Hs.full (r,S)=(a,e,S')):0<=a/\a<=1000000/\0<=e/\e<=8:=by
 rw [W9a] at h
 simp only [F1c] at h
 obtain ⟨rfl,rfl,_⟩:=h
 unfold err8
 split <;> omega
theorem i2a {f n r:Int} (hs:S.words.length<=1000000) (h:S.end' f n=some (r,e,S')):0<=r/\r<=1000000/\0<=e/\e<=8:=by
 unfold Hp.Hs.end' at h
 split at h
 . simp only [z7b,F1c] at h;omega
 simp only [v9b,s0b,C9c,z7b] at h
 obtain ⟨⟨a,S1⟩,ha,h⟩:=h
 exact o5a (y6a hs ha) h
def actV (x:Hp.Act') (p:Option Addr) (c:Nat) (f:Nat):Value:=.agg #[.int .u8 x.kind,.int .i64 x.a,.slice p x.list.length c,.int .u8 f,.int .i64 x.n]
theorem U4a {a:Int} (h:S.D0a a l=some e):0<=e/\e<=8:=by
 unfold Hp.Hs.D0a at h
 split at h
 . cases h
   omega
 simp only [v9b,s0b] at h
 obtain ⟨v,_,h⟩:=h
 split at h
 . cases h
   omega
 split at h
 . cases h
   omega
 simp only [s0b] at h
 obtain ⟨b,_,h⟩:=h
 split at h
 . cases h
   omega
 cases h
 omega
theorem C1b {a:Int} {r:Int} (hs:S.words.length<=1000000) (hl:∀ x ∈ l,-9223372036854775808<=x/\x<=9223372036854775807) (h:S.make a l=some (r,e,S')) : -9223372036854775808<=r/\r<=9223372036854775807/\0<=e/\e<=8:=by
 unfold Hp.Hs.make at h
 simp only [v9b,s0b] at h
 obtain ⟨e0,he,h⟩:=h
 have:=U4a he
 split at h
 . simp only [z7b,F1c] at h;omega
 split at h
 . simp only [s0b,z7b,F1c] at h;obtain ⟨k,hk,rfl,rfl,_⟩:=h;have:=hl k (y3b hk);omega
 simp only [s0b,C9c,z7b] at h
 obtain ⟨⟨a',S1⟩,ha,h⟩:=h
 have:=o5a (y6a hs ha) h
 omega
theorem o3b {a:Int} {r:Int} (hs:S.words.length<=1000000) (hl:∀ x ∈ l,-9223372036854775808<=x/\x<=9223372036854775807) (h:S.find a l=some (r,e)) : -9223372036854775808<=r/\r<=9223372036854775807/\0<=e/\e<=8:=by
 unfold Hp.Hs.find at h
 simp only [v9b,s0b] at h
 obtain ⟨e0,he,h⟩:=h
 have:=U4a he
 split at h
 . simp only [z7b,F1c] at h;omega
 split at h
 . simp only [s0b,z7b,F1c] at h;obtain ⟨k,hk,rfl,rfl⟩:=h;have:=hl k (y3b hk);omega
 simp only [s0b] at h
 obtain ⟨a',ha,h⟩:=h
 have:=m0a hs ha
 split at h
 . simp only [z7b,F1c] at h;omega
 simp only [z7b,F1c] at h
 omega
theorem M0b {a:Int} (h:S.hold a=some (e,S')):0<=e/\e<=9:=by
 unfold Hp.Hs.hold at h
 split at h
 . simp only [z7b,F1c] at h;omega
 simp only [v9b,s0b,C9c,z7b,F1c] at h
 obtain ⟨_,_,_,_,h,_⟩:=h
 omega
theorem L4b {a:Int} (h:S.drop a=some (e,S')):0<=e/\e<=9:=by
 unfold Hp.Hs.drop at h
 split at h
 . simp only [z7b,F1c] at h;omega
 simp only [v9b,s0b] at h
 obtain ⟨_,_,h⟩:=h
 split at h
 . simp only [z7b,F1c] at h;omega
 simp only [s0b,C9c,z7b,F1c] at h
 obtain ⟨_,_,h,_⟩:=h
 omega
structure X8b (x:Hp.Act') (f:Nat):Prop where
 k0:0<=x.kind
 fault:x.fault=f
 f2:f < 256
 n1 : -9223372036854775808<=x.n
 n2:x.n<=9223372036854775807
 a1 : -9223372036854775808<=x.a
 a2:x.a<=9223372036854775807
 len:x.list.length<=1000
theorem y8a {a:Int} (h:S.D0a a l=some 0):∀ k ∈ l,0<=k:=by
 unfold Hp.Hs.D0a at h
 split at h
 . cases h
 simp only [v9b,s0b] at h
 obtain ⟨v,_,h⟩:=h
 split at h
 . cases h
 split at h
 . cases h
 rename_i _ hn
 intro k hk
 have:S.has k=true:=by
  have h2:l.all S.has=true:=by simpa using hn
  exact A7c.1 h2 k hk
 unfold Hp.Hs.has at this
 simp only [B8c,A1c] at this
 exact this.1
theorem d2b {a:Int} {r:Int} (h:S.make a l=some (r,e,S')):0<=r:=by
 unfold Hp.Hs.make at h
 simp only [v9b,s0b] at h
 obtain ⟨e0,he,h⟩:=h
 split at h
 . simp only [z7b,F1c] at h;omega
 rename_i h0
 have h0:e0=0:=by omega
 subst h0
 split at h
 . simp only [s0b,z7b,F1c] at h;obtain ⟨k,hk,rfl,rfl,_⟩:=h;exact y8a he k (y3b hk)
 simp only [s0b,C9c,z7b] at h
 obtain ⟨⟨a',S1⟩,ha,h⟩:=h
 rw [W9a] at h
 simp only [F1c] at h
 omega
theorem a9b {a:Int} {r:Int} (h:S.find a l=some (r,e)):0<=r:=by
 unfold Hp.Hs.find at h
 simp only [v9b,s0b] at h
 obtain ⟨e0,he,h⟩:=h
 split at h
 . simp only [z7b,F1c] at h;omega
 rename_i h0
 have h0:e0=0:=by omega
 subst h0
 split at h
 . simp only [s0b,z7b,F1c] at h;obtain ⟨k,hk,rfl,rfl⟩:=h;exact y8a he k (y3b hk)
 simp only [s0b] at h
 obtain ⟨a',ha,h⟩:=h
 split at h
 . simp only [z7b,F1c] at h;omega
 simp only [z7b,F1c] at h
 omega
theorem m5b {f n r:Int} (h:S.end' f n=some (r,e,S')):0<=r:=by
 unfold Hp.Hs.end' at h
 split at h
 . simp only [z7b,F1c] at h;omega
 simp only [v9b,s0b,C9c,z7b] at h
 obtain ⟨⟨a,S1⟩,ha,h⟩:=h
 rw [W9a] at h
 simp only [F1c] at h
 omega
structure ScOk (s:Hp.Sc) (j:Nat):Prop where
 res:s.res.length=j
 ats:s.ats.length=j
 pos:∀ a ∈ s.ats,0<=a
theorem ScOk.note {r:Int} {b:Bool} (h:ScOk s j) (hr:b=true->0<=r):ScOk (s.note r e b) (j+1):=by
 refine ⟨by simp [Hp.Sc.note,h.res],by simp [Hp.Sc.note,h.ats],fun a ha=>?_⟩
 simp only [Hp.Sc.note,C4c,w8b] at ha
 rcases ha with ha | rfl
 . exact h.pos a ha
 split
 . omega
 split
 . rename_i hb;exact hr hb
 omega
theorem ScOk.heap (h:ScOk s j) (S:Hp.Hs):ScOk { s with S:=S } j:=⟨h.res,h.ats,h.pos⟩
theorem ScOk.forget (h:ScOk s j):ScOk s.forget j:=by
 refine ⟨h.res,by simp [Hp.Sc.forget,h.ats],fun a ha=>?_⟩
 obtain ⟨b,hb,rfl⟩:=F7c.1 ha
 have:=h.pos b hb
 split <;> omega
theorem ScOk.do_ {s':Hp.Sc} {x:Hp.Act'} (h:ScOk s j) (hs:s.S.words.length<=1000000 \/ True) (hv:∀ S S':Hp.Hs,∀ M,S.moved=some (M,S') -> ∀ p ∈ M,0<=p.2) (hr:s.do' x=some s'):ScOk s' (j+1):=by
 unfold Hp.Sc.do' at hr
 split at hr
 . simp only [v9b,s0b,z7b] at hr;obtain ⟨⟨r,e,S⟩,hr,rfl⟩:=hr;exact (h.heap S).note fun _=>m5b hr
 split at hr
 . dsimp only at hr
   by_cases hc:(List.map (Hp.nameOf s.ats) x.list).contains 0=true
   . rw [H5c hc] at hr;simp only [z7b] at hr;subst hr;exact h.note (by simp)
   rw [H4c hc] at hr
   split at hr
   . simp only [v9b,s0b,z7b] at hr;obtain ⟨⟨r,e,S⟩,hr,rfl⟩:=hr;exact (h.heap S).note fun _=>d2b hr
   simp only [v9b,s0b,z7b] at hr;obtain ⟨⟨r,e⟩,hr,rfl⟩:=hr;exact h.note fun _=>a9b hr
 split at hr
 . split at hr
   . simp only [z7b] at hr;subst hr;exact h.note (by simp)
   split at hr
   . simp only [v9b,s0b,z7b] at hr;obtain ⟨⟨e,S⟩,hr,rfl⟩:=hr;exact (h.heap S).note (by simp)
   simp only [v9b,s0b,z7b] at hr;obtain ⟨⟨e,S⟩,hr,rfl⟩:=hr;exact (h.heap S).note (by simp)
 split at hr
 . simp only [v9b,s0b,z7b] at hr;obtain ⟨⟨m,S⟩,hr,rfl⟩:=hr;exact ((h.heap S).forget).note (by simp)
 split at hr
 . simp only [v9b,s0b,z7b] at hr;obtain ⟨⟨m,S⟩,hr,⟨M,S2⟩,hm,rfl⟩:=hr;have h3:=(h.heap S).forget;refine ScOk.note ⟨h3.res,by simp [h3.ats],fun a ha=>?_⟩ (by simp);obtain ⟨b,hb,rfl⟩:=F7c.1 ha
   split
   . omega
   cases e:getI b.toNat M with
   | none=>simp
   | some v=>simpa using hv _ _ _ hm _ (I6b e)
 simp only [z7b] at hr
 subst hr
 exact h.note (by simp)
theorem Q8b (h:S.moved=some (M,S')):∀ p ∈ M,0<=p.2:=by
 obtain ⟨Wf,nf,Sx,hmv,_⟩:=M8b h
 intro p hp
 rcases (P7a hmv).2 p hp with h | ⟨_,h2,_⟩
 . cases h
 exact h2
theorem ScOk.do' {s':Hp.Sc} {x:Hp.Act'} (h:ScOk s j) (hr:s.do' x=some s'):ScOk s' (j+1):=h.do_ (.inr trivial) (fun _ _ _ hm=>Q8b hm) hr
def ActIn (w:World) (b o:Nat) (x:Hp.Act'):Prop:=∃ q c f,X8b x f/\w.cell? ⟨b,o,none⟩=some (.int .u8 x.kind)/\w.cell? ⟨b,o+1,none⟩=some (.int .i64 x.a)/\w.cell? ⟨b,o+2,none⟩=some (.slice q x.list.length c)/\w.cell? ⟨b,o+3,none⟩=some (.int .u8 f)/\w.cell? ⟨b,o+4,none⟩=some (.int .i64 x.n)/\SliceAt w q c x.list
structure g1b (w:World) (p:Option Addr) (c:Nat) (l:List Hp.Act'):Prop where
 le:l.length<=c
 cap:c<=9223372036854775807
 cells:0 < l.length -> ∃ b o,p=some ⟨b,o,none⟩/\b < w.heap.size /\ ∀ j x,l[j]? = some x->ActIn w b (o+j * 5) x
structure Rd where
 rb:Nat
 sp:Option Addr
 sc:Nat
 op:Option Addr
 oc:Nat
 gb:Nat
 go:Nat
 wc:Nat
structure RAt (w:World) (r:Rd) (S:Hp.Hs):Prop where
 c0:w.cell? ⟨r.rb,0,none⟩=some (.slice r.sp S.sizes.length r.sc)
 c1:w.cell? ⟨r.rb,1,none⟩=some (.slice r.op S.order.length r.oc)
 c2:w.cell? ⟨r.rb,2,none⟩=some (.slice (some ⟨r.gb,r.go,none⟩) S.words.length r.wc)
 sizes:SliceAt w r.sp r.sc S.sizes
 order:SliceAt w r.op r.oc S.order
 words:SliceAt w (some ⟨r.gb,r.go,none⟩) r.wc S.words
namespace RAt
variable {w w':World} {r:Rd} {S:Hp.Hs}
theorem ext (h:RAt w r S) (k:Ext w w'):RAt w' r S:=
 ⟨k.q h.c0,k.q h.c1,k.q h.c2,h.sizes.ext k,h.order.ext k,h.words.ext k⟩
theorem get (h:RAt w r S) (hj:j < S.words.length):w.cell? ⟨r.gb,r.go+j,none⟩=some (.int .i64 (Hp.ow S.words j)):=by
 obtain ⟨b,o,e,_,hc⟩:=h.words.cells (by omega)
 cases e
 exact hc j _ (Hp.F7a hj)
theorem lt (h:RAt w r S):r.rb < w.heap.size:=cell_lt h.c0
end RAt
theorem p2b {r:Rd} (h:RAt w r S) (hz:Hp.Fr S.sizes) (ht:Hp.okTag S.sizes t=true) :
    Calls prog 68 #[.pointer (some ⟨r.rb,0,none⟩),.int .i64 t] w (Rt w (.int .i64 ((Hp.wz S.sizes t-4:Nat):Int))):=by
  have h0:=h.c0;have few:=hz.few;have hle:=h.sizes.le;have hcap:=h.sizes.cap;have hwz:=Hp.S6a hz ht
  cases he:Hp.B1a t with
  | true=>
   have e:Hp.wz S.sizes t=5:=by simp [Hp.wz,he]
   rw [e];simp only [Hp.B1a,Hp.within,B8c,A1c] at he;obtain ⟨e1,e2⟩:=he;clear h hz ht hwz e;generalize S.sizes.length=n at *;have t1:decide (t<=(n:Int))=false:=dF;have t2:decide (t ≥ 1)=true:=dT;have t3:decide (t ≥ 20)=true:=dT;have t4:decide (t<=24)=true:=dT;go_enter func68,ntmps68
   go_wp2_with fail
   go_returns;exact ⟨rfl,exx⟩
  | false=>
   have hn:=Hp.Q2a ht he;simp only [Hp.isNode,Hp.within,B8c,A1c] at hn;obtain ⟨e1,e2⟩:=hn;obtain ⟨i,rfl⟩:∃ i:Nat,t=(i:Int)+1:=⟨(t-1).toNat,by omega⟩
   have hi:i < S.sizes.length:=by omega
   obtain ⟨x,hx⟩:=A4a (l:=S.sizes) (j:=i) hi;have hxp:=hz.pos x (u1b hx);have e:((Hp.wz S.sizes ((i:Int)+1)-4:Nat):Int)=x:=by
    unfold Hp.wz;rw [he];have:S.sizes.getD ((i:Int)+1-1).toNat 0=x:=by
     rw [show ((i:Int)+1-1).toNat=i by omega,q1b];unfold Hp.rd at hx;rw [hx];rfl
    rw [this];simp only [x6b,H1c];omega
   rw [e];obtain ⟨b,o,hp,hb,hc⟩:=h.sizes.cells (by omega);have gx:=hc i x hx;rw [hp] at h0;clear h hz ht hwz e hc hx he hp;generalize S.sizes.length=n at *;have t1:decide ((i:Int)+1<=(n:Int))=true:=dT;have t2:decide ((i:Int)+1 ≥ 1)=true:=dT;go_enter func68,ntmps68
   go_wp2_with fail
   go_returns;exact ⟨rfl,exx⟩
theorem c7a {r:Rd} (h:RAt w r S) (ha:a < S.words.length) :
    Calls prog 87 #[.pointer (some ⟨r.rb,0,none⟩),.int .i64 a] w (Rt w (.bool (decide (Hp.ow S.words a < 20)))):=by
  have c2:=h.c2;have gx:=h.get ha;have hle:=h.words.le;have hcap:=h.words.cap;clear h;generalize S.words.length=n at *;generalize Hp.ow S.words a=x at *;go_enter func87,ntmps87
  go_wp2_with fail
  go_returns;exact ⟨rfl,exx⟩
theorem K0a {r:Rd} (h:RAt w r S) (hz:Hp.Fr S.sizes) (ha:a < S.words.length) (ht:Hp.okTag S.sizes (Hp.ow S.words a)=true) :
    Calls prog 67 #[.pointer (some ⟨r.rb,0,none⟩),.int .i64 a] w (Rt w (.int .i64 ((Hp.wz S.sizes (Hp.ow S.words a):Nat):Int))):=by
  have c2:=h.c2;have gx:=h.get ha;have hle:=h.words.le;have hcap:=h.words.cap;have hwz:=Hp.S6a hz ht;have hto:=Hp.Q8a hz ht;have HC:=hZ (fun W (hW:Ext w W)=>p2b (h.ext hW) hz ht);clear h hz ht;generalize S.words.length=n at *;generalize Hp.ow S.words a=x at *;obtain ⟨k,hk⟩:∃ k,Hp.wz S.sizes x=k+4:=⟨Hp.wz S.sizes x-4,by omega⟩
  have e4:((Hp.wz S.sizes x-4:Nat):Int)=k:=by omega
  have HC2:=hZ (fun W (hW:Ext w W)=>e4 ▸ HC.out W hW);rw [hk];have hk16:k<=12:=by omega
  have t0:(x == 0)=false:=by simp;omega
  clear hwz hk e4 HC hto;go_enter func67,ntmps67
  go_wp2_with (go_at_call 68;refine m4_ (HC2.out _ (exx)) fun w1 hb1 hc1 hf1 hs1=>?_)
  go_returns;exact ⟨by rw [show ((k+4:Nat):Int)=4+(k:Int) by push_cast;omega];rfl,exx⟩
theorem d3a {r:Rd} (h:RAt w r S) (ha:a+1 < S.words.length) (h0:Hp.ow S.words a=0) (h1:Hp.ow S.words (a+1)=k) :
    Calls prog 67 #[.pointer (some ⟨r.rb,0,none⟩),.int .i64 a] w (Rt w (.int .i64 (k:Int))):=by
  have c2:=h.c2;have gx:=h.get (j:=a) (by omega);have gy:=h.get ha;rw [h0] at gx;rw [h1] at gy;have hle:=h.words.le;have hcap:=h.words.cap;clear h h0 h1;generalize S.words.length=n at *;go_enter func67,ntmps67
  go_wp2_with fail
  go_returns;exact ⟨rfl,exx⟩
open Go.RowKit Go.Maps
def pick (b:Bool) (L:List Hp.Tl):List Int:=(L.filter fun t=>t.fr == b).map fun t=>(t.a:Int)
theorem Y4a (b:Bool) (P:List Hp.Tl) (t:Hp.Tl):pick b (P ++ [t])=pick b P ++ (if t.fr == b then [(t.a:Int)] else []):=by
 unfold pick
 rw [List.filter_append,C5c]
 congr 1
 cases h:t.fr == b <;> simp [h]
theorem r7a (b:Bool) (L:List Hp.Tl):(pick b L).length<=L.length:=by
 unfold pick
 rw [C6c]
 exact t4b _ _
theorem J3b (L:List Hp.Tl):pick false L=(Hp.A6a L).map fun a:Nat=>(a:Int):=by
 unfold pick Hp.A6a
 rw [F8c]
 congr 1
 apply y4b
 intro t _
 cases t.fr <;> rfl
def Y6a (w:World) (l:List Int) (e:Ending) (w':World):Prop:=∃ p c,e = .returned (.slice p l.length c)/\Row w' w.heap.size p c l/\Ext w w'
theorem g9b {r:Rd} (h:RAt w r S) (hz:Hp.Fr S.sizes) (hi:S.words.length<=100000) (hL:Hp.Parts (Hp.ow S.words) S.sizes L S.words.length) (b:Bool) :
    Calls prog 139 #[.pointer (some ⟨r.rb,0,none⟩),.bool b] w (Y6a w (pick b L)):=by
  obtain ⟨n,hn⟩:∃ n,S.words.length=n:=⟨_,rfl⟩
  have EN:=hZ hn;have H:=hZ h;have HL:=hZ hL;have hLn:=Hp.R0a hL.lay;rw [hn] at hi hLn;clear h hL hn;go_enter func139,ntmps139
  go_wp2_with fail
  go_loopg [5,6] L.length (fun g o i wr=>∃ (P Q:List Hp.Tl) (s:Nat) (p:Option Addr) (c:Nat),Q.length<=g/\i = .int .i64 s/\s<=n/\o = .slice p (pick b P).length c/\Hid (L=P ++ Q)/\Hid (Hp.Lay s Q n)/\Hid (Row wr w.heap.size p c (pick b P))/\Hid (Ext w wr))
  case atStart=>exact ⟨[],L,17,none,0,H0c _,rfl,by omega,rfl,hZ rfl,hZ (by rw [<- EN.out];exact HL.out.lay),hZ (Row.nil _ _),hZ (Ext.refl w)⟩
  case round=>
   obtain ⟨P,Q,s,p,c,hg,rfl,hs,rfl,EL,LQ,R,E⟩:=hrel;have N:=hZ (H.out.ext E.out);have c2:=N.out.c2;have hle:=N.out.words.le;have hcap:=N.out.words.cap;rw [EN.out] at c2 hle
   cases Q with
   | nil=>
    have:s=n:=LQ.out;subst this;have tk:decide ((s:Int) < (s:Int))=false:=dF;have hP:P=L:=by rw [EL.out,C7c]
    subst hP
    go_wp2_with fail
    go_returns;exact ⟨p,c,rfl,R.out,E.out⟩
   | cons t Q=>
    have htL:t ∈ L:=by rw [EL.out];simp
    have hok:=HL.out.ok t htL;obtain ⟨q1,q2,q3⟩:=LQ.out;have q4:=q3.le;subst q1;have hta:t.a+t.k<=S.words.length:=(HL.out.lay.mem htL).2.1;have gx:=N.out.get (j:=t.a) (by omega);have tk:decide ((t.a:Int) < (n:Int))=true:=dT;have EL2:Hid (L=(P ++ [t]) ++ Q):=hZ (by rw [EL.out];simp);have LQ2:=hZ q3;have HTA:=hZ hta;have plen:=r7a b P;have hPL:P.length<=L.length:=by rw [EL.out];simp
    have hnext:IntKind.i64.wrap ((t.a:Int)+(t.k:Int))=((t.a+t.k:Nat):Int):=by rw [D2c];exact E4c _ (by omega)
    have HNX:=hZ hnext;simp only [A5c] at hg
    cases hf:t.fr with
    | true=>
     have hfr:=hok.free hf;have LONG:=hZ (fun W (hW:Ext w W)=>d3a (H.out.ext hW) (a:=t.a) (by omega) hfr.1 hfr.2.1);rw [hfr.1] at gx
     cases b with
     | true=>
      have EP:pick true (P ++ [t])=pick true P ++ [(t.a:Int)]:=by rw [Y4a,hf];rfl
      have RA:=hZ (R.out.ext (Ext.alloc (Ext.refl _) (.cells #[.int .i64 t.a] 3)));clear hfr hok hta q3 LQ EL hnext hf htL
      go_wp2_with (first
       | (go_at_call 67;refine m4_ (LONG.out _ E8) fun w1 hb1 hc1 hf1 hs1=>?_)
       | (at_builtin;refine C0a rfl _ _ rfl (y:=(t.a:Int)) rfl rfl RA.out (by go_simp) (by omega) (by omega) (by omega) (by have:=E.out.le;simp;omega) ?_;intro g8 c8 x8 hR8 hG8;obtain ⟨row,hgr,hrow⟩:=id hG8;have E8:Ext w x8:=M0a (E.out.alloc _) hgr hrow;have N8:=hZ (H.out.ext E8);have c28:=N8.out.c2;have R8H:=hZ hR8))
      go_roundg Q.length
      case measure=>omega
      case rel=>exact ⟨P ++ [t],Q,t.a+t.k,some ⟨g8,0,none⟩,c8,H0c _,by go_num,by omega,by rw [EP];simp,EL2,LQ2,hZ (by rw [EP];exact R8H.out.ext hb1),hZ (E8.trans hb1)⟩
     | false=>
      have EP:pick false (P ++ [t])=pick false P:=by rw [Y4a,hf];simp
      clear hfr hok hta q3 LQ EL hnext hf htL
      go_wp2_with (go_at_call 67;refine m4_ (LONG.out _ E.out) fun w1 hb1 hc1 hf1 hs1=>?_)
      go_roundg Q.length
      case measure=>omega
      case rel=>exact ⟨P ++ [t],Q,t.a+t.k,p,c,H0c _,by go_num,by omega,by rw [EP],EL2,LQ2,hZ (by rw [EP];exact R.out.ext hb1),hZ (E.out.trans hb1)⟩
    | false=>
     have hcl:=hok.cell hf;have hto:=Hp.Q8a hz hcl.1;have LONG:=hZ (fun W (hW:Ext w W)=>hcl.2 ▸ K0a (H.out.ext hW) hz (a:=t.a) (by omega) hcl.1);have t0:(Hp.ow S.words t.a == 0)=false:=by simp;omega
     cases b with
     | false=>
      have EP:pick false (P ++ [t])=pick false P ++ [(t.a:Int)]:=by rw [Y4a,hf];rfl
      have RA:=hZ (R.out.ext (Ext.alloc (Ext.refl _) (.cells #[.int .i64 t.a] 3)));clear hcl hto hok hta q3 LQ EL hnext hf htL;generalize Hp.ow S.words t.a=x at *
      go_wp2_with (first
       | (go_at_call 67;refine m4_ (LONG.out _ E8) fun w1 hb1 hc1 hf1 hs1=>?_)
       | (at_builtin;refine C0a rfl _ _ rfl (y:=(t.a:Int)) rfl rfl RA.out (by go_simp) (by omega) (by omega) (by omega) (by have:=E.out.le;simp;omega) ?_;intro g8 c8 x8 hR8 hG8;obtain ⟨row,hgr,hrow⟩:=id hG8;have E8:Ext w x8:=M0a (E.out.alloc _) hgr hrow;have N8:=hZ (H.out.ext E8);have c28:=N8.out.c2;have R8H:=hZ hR8))
      go_roundg Q.length
      case measure=>omega
      case rel=>exact ⟨P ++ [t],Q,t.a+t.k,some ⟨g8,0,none⟩,c8,H0c _,by go_num,by omega,by rw [EP];simp,EL2,LQ2,hZ (by rw [EP];exact R8H.out.ext hb1),hZ (E8.trans hb1)⟩
     | true=>
      have EP:pick true (P ++ [t])=pick true P:=by rw [Y4a,hf];simp
      clear hcl hto hok hta q3 LQ EL hnext hf htL;generalize Hp.ow S.words t.a=x at *
      go_wp2_with (go_at_call 67;refine m4_ (LONG.out _ E.out) fun w1 hb1 hc1 hf1 hs1=>?_)
      go_roundg Q.length
      case measure=>omega
      case rel=>exact ⟨P ++ [t],Q,t.a+t.k,p,c,H0c _,by go_num,by omega,by rw [EP],EL2,LQ2,hZ (by rw [EP];exact R.out.ext hb1),hZ (E.out.trans hb1)⟩
theorem rCells {r:Rd} (h:RAt w r S) (hz:Hp.Fr S.sizes) (hi:S.words.length<=100000) (hL:Hp.Parts (Hp.ow S.words) S.sizes L S.words.length) :
    Calls prog 82 #[.pointer (some ⟨r.rb,0,none⟩)] w (Y6a w (pick false L)):=by
  have HC:=hZ (g9b h hz hi hL false);clear h hz hL;go_enter func82,ntmps82
  go_wp2_with (go_at_call 139;refine HC.out.mono ?_;rintro e w1 ⟨p,c,rfl,hR,hE⟩)
  go_returns;exact ⟨p,c,rfl,hR,hE⟩
theorem rFree {r:Rd} (h:RAt w r S) (hz:Hp.Fr S.sizes) (hi:S.words.length<=100000) (hL:Hp.Parts (Hp.ow S.words) S.sizes L S.words.length) :
    Calls prog 84 #[.pointer (some ⟨r.rb,0,none⟩)] w (Y6a w (pick true L)):=by
  have HC:=hZ (g9b h hz hi hL true);clear h hz hL;go_enter func84,ntmps84
  go_wp2_with (go_at_call 139;refine HC.out.mono ?_;rintro e w1 ⟨p,c,rfl,hR,hE⟩)
  go_returns;exact ⟨p,c,rfl,hR,hE⟩
theorem dIn (n a b:Int) (w:World):Calls prog 66 #[.int .i64 n,.int .i64 a,.int .i64 b] w (Rt w (.bool (Hp.within a b n))):=by
 by_cases h1:a<=n
 . have t1:decide (n ≥ a)=true:=E5c h1
   by_cases h2:n<=b
   . have t2:decide (n<=b)=true:=E5c h2;have e:Hp.within a b n=true:=by simp [Hp.within,h1,h2]
     rw [e];clear e;go_enter func66,ntmps66
     go_wp2_with fail
     go_returns;exact ⟨rfl,exx⟩
   have t2:decide (n<=b)=false:=D7c h2;have e:Hp.within a b n=false:=by simp [Hp.within,h2]
   rw [e];clear e;go_enter func66,ntmps66
   go_wp2_with fail
   go_returns;exact ⟨rfl,exx⟩
 have t1:decide (n ≥ a)=false:=D7c h1
 have e:Hp.within a b n=false:=by simp [Hp.within,h1]
 rw [e]
 clear e
 go_enter func66,ntmps66
 go_wp2_with fail
 go_returns
 exact ⟨rfl,exx⟩
theorem rHas (h:SliceAt w p c l) :
    Calls prog 85 #[.slice p l.length c,.int .i64 x] w (Rt w (.bool (l.contains x))):=by
  have hle:=h.le;have hcap:=h.cap;have H:=hZ h;clear h;generalize hL:l.length=n at hle ⊢;have HL:=hZ hL;clear hL;obtain ⟨b,hb⟩:∃ b,l.contains x=b:=⟨_,rfl⟩
  have HB:=hZ hb;rw [hb];clear hb;go_enter func85,ntmps85
  go_wp2_with fail
  go_loopg [5] n (fun g i wr=>∃ j:Nat,j<=n/\n-j<=g/\i = .int .i64 j/\Hid (Ext w wr)/\Hid (∀ i,i < j->Hp.rd l i ≠ some x))
  case atStart=>exact ⟨0,G9c _,by omega,rfl,hZ (Ext.refl w),hZ (fun i hi=>absurd hi (D0c _))⟩
  case round=>
   obtain ⟨j,hj,hg,rfl,E,A⟩:=hrel
   by_cases hlt:j < n
   . obtain ⟨y,hy⟩:=A4a (l:=l) (j:=j) (by rw [HL.out];exact hlt);obtain ⟨bb,o,rfl,hbb,hc⟩:=(H.out.ext E.out).cells (by rw [HL.out];omega);have g1:=hc j y hy;have HY:=hZ hy;have tk:decide ((j:Int) < (n:Int))=true:=dT;clear hc hy
     by_cases hyx:y=x
     . have t0:(y == x)=true:=by simpa using hyx
       have hbt:b=true:=by
        rw [<- HB.out];have:=u1b HY.out;rw [hyx] at this
        simpa using this
       subst hbt
       go_wp2_with fail
       go_returns;exact ⟨rfl,E.out⟩
     have t0:(y == x)=false:=by simpa using hyx
     have A2:Hid (∀ i,i < j+1->Hp.rd l i ≠ some x):=hZ (fun i hi=>by
      by_cases e:i=j
      . subst e;rw [HY.out]
        simpa using hyx
      . exact A.out i (by omega))
     go_wp2_with fail
     go_roundg (n-(j+1))
     case measure=>omega
     case rel=>exact ⟨j+1,by omega,H0c _,by go_num,E,A2⟩
   have:j=n:=by omega
   subst this;have tk:decide ((j:Int) < (j:Int))=false:=dF;have hbf:b=false:=by
    rw [<- HB.out]
    cases hc:l.contains x with
    | false=>rfl
    | true=>
     have hm:x ∈ l:=by simpa using hc
     obtain ⟨i,hi,e⟩:=u9b hm;exact absurd (by unfold Hp.rd;rw [r1b hi,e]) (A.out i (by rw [<- HL.out];exact hi))
   subst hbf
   go_wp2_with fail
   go_returns;exact ⟨rfl,E.out⟩
theorem g4b {r:Rd} (h:RAt w r S) {c:Int} (hk:Hp.rd S.order k=some c) (hf:∀ j,j < k->Hp.rd S.order j ≠ some c) :
    Calls prog 173 #[.pointer (some ⟨r.rb,0,none⟩),.int .i64 c] w (Rt w (.int .i64 (k:Int))):=by
  have hkl:=G0a hk;have hle:=h.order.le;have hcap:=h.order.cap;have H:=hZ h;have HK:=hZ hk;have HF:=hZ hf;clear h hk hf;generalize hL:S.order.length=n at hle hkl;have HL:=hZ hL;clear hL;go_enter func173,ntmps173
  go_wp2_with fail
  go_loopg [5] n (fun g i wr=>∃ j:Nat,j<=k/\n-j<=g/\i = .int .i64 j/\Hid (Ext w wr))
  case atStart=>exact ⟨0,G9c _,by omega,rfl,hZ (Ext.refl w)⟩
  case round=>
   obtain ⟨j,hj,hg,rfl,E⟩:=hrel;have N:=hZ (H.out.ext E.out);have c1:=N.out.c1;rw [HL.out] at c1;obtain ⟨y,hy⟩:=A4a (l:=S.order) (j:=j) (by rw [HL.out];omega);obtain ⟨bb,o,hp,hbb,hc⟩:=N.out.order.cells (by rw [HL.out];omega);have g1:=hc j y hy;rw [hp] at c1;have tk:decide ((j:Int) < (n:Int))=true:=dT;have HY:=hZ hy;clear hc hy hp
   by_cases hjk:j=k
   . subst hjk;have hyc:y=c:=by
      have:=HY.out;rw [HK.out] at this;exact (D3c this).symm
     have t0:(y == c)=true:=by simpa using hyc
     go_wp2_with fail
     go_returns;exact ⟨rfl,E.out⟩
   have hyc:y ≠ c:=by
    intro e;exact HF.out j (by omega) (by rw [HY.out,e])
   have t0:(y == c)=false:=by simpa using hyc
   clear hyc
   go_wp2_with fail
   go_roundg (n-(j+1))
   case measure=>omega
   case rel=>exact ⟨j+1,by omega,H0c _,by go_num,E⟩
theorem index_spec {c:Int} (h:c ∈ o):∃ k:Nat,Hp.index o c=k/\Hp.rd o k=some c /\ ∀ j,j < k->Hp.rd o j ≠ some c:=by
 unfold Hp.index
 cases hf:o.findIdx? (· == c) with
 | none=>
  rw [q7b] at hf;have:=hf c h;simp at this
 | some i=>
  rw [p4b] at hf;obtain ⟨hl,h1,h2⟩:=hf;refine ⟨i,rfl, ?_,fun j hj e=>?_⟩
  . unfold Hp.rd;rw [r1b hl]
    simpa using h1
  have:=h2 j hj;unfold Hp.rd at e;rw [r1b (by omega)] at e;have e:=D3c e;simp [e] at this
theorem R0b (hz:Hp.FrOk S.sizes S.order) (h:Hp.isNode S.sizes t=true):t-1 ∈ S.order:=by
 simp only [Hp.isNode,Hp.within,B8c,A1c] at h
 have:=hz.perm (t-1).toNat (by omega)
 rwa [show (((t-1).toNat:Nat):Int)=t-1 by omega] at this
theorem z4a {z:List Int} (he:Hp.B1a t=false):Hp.rank o t=Hp.index o (t-1):=by simp [Hp.rank,he]
theorem rRank {r:Rd} {ch:Nat->List Nat} (h:RAt w r S) (hw:Hp.Wf S B L ch) (ha:a ∈ S.taken) :
    Calls prog 172 #[.pointer (some ⟨r.rb,0,none⟩),.int .i64 a] w (Rt w (.int .i64 (Hp.rank S.order (Hp.ow S.words a)))):=by
  have pa:=hw.part ha;have ht:=hw.cells.tags a ha;have hto:=hw.W0a ha;have few:=hw.fr.few;have NODE:=hZ (fun W (hW:Ext w W)=>c7a (h.ext hW) (a:=a) (by omega))
  cases he:Hp.B1a (Hp.ow S.words a) with
  | true=>
   have e:Hp.rank S.order (Hp.ow S.words a)=S.order.length:=by simp [Hp.rank,he]
   rw [e];simp only [Hp.B1a,Hp.within,B8c,A1c] at he;have NODE2:=hZ (fun W (hW:Ext w W)=>(D7c (by omega:¬ Hp.ow S.words a < 20)) ▸ NODE.out W hW);have H:=hZ h;have hcap:=h.order.cap;have hle:=h.order.le;clear h hw ha ht he e NODE pa;go_enter func172,ntmps172
   go_wp2_with (go_at_call 87;refine m4_ (NODE2.out _ (exx)) fun w1 hb1 hc1 hf1 hs1=>?_;have c1:=(H.out.ext hb1).c1)
   go_returns;exact ⟨rfl,exx⟩
  | false=>
   have hn:=Hp.Q2a ht he;have hm:=R0b hw.fr hn;obtain ⟨k,e1,e2,e3⟩:=index_spec hm;rw [z4a (z:=S.sizes) he,e1];have PL:=hZ (fun W (hW:Ext w W)=>g4b (h.ext hW) e2 e3);simp only [Hp.isNode,Hp.within,B8c,A1c] at hn;have NODE2:=hZ (fun W (hW:Ext w W)=>(E5c (by omega:Hp.ow S.words a < 20)) ▸ NODE.out W hW);have H:=hZ h;have gx:=h.get (j:=a) (by omega);have hlt:=h.lt;have c2:=h.c2;have hle:=h.words.le;have hcap:=h.words.cap;obtain ⟨bb,o',hp',hbb,_⟩:=h.words.cells (by omega)
   cases hp'
   have al:a < S.words.length:=by omega
   clear h hw ha ht he e1 e2 e3 NODE hm pa;generalize S.words.length=n at *;generalize Hp.ow S.words a=x at *;go_enter func172,ntmps172
   go_wp2_with (first
    | (go_at_call 87;refine m4_ (NODE2.out _ (exx)) fun w1 hb1 hc1 hf1 hs1=>?_;have c2':=hb1.q c2;have gx':=hb1.q gx)
    | (go_at_call 173;refine m4_ (PL.out _ (exx)) fun w2 hb2 hc2 hf2 hs2=>?_))
   go_returns;exact ⟨rfl,exx⟩
theorem g5b (h:SliceAt w p c l) (hk:Hp.chain t l=some k) :
    Calls prog 137 #[.int .i64 t,.slice p l.length c] w (Rt w (.int .i64 k)):=by
  simp only [Hp.chain,v9b,s0b,C9c,z7b] at hk;obtain ⟨t',ht,n0,hn,r,hr,hk⟩:=hk;obtain ⟨rfl,ht1,ht2⟩:=J4a ht;obtain ⟨rfl,hn1,hn2⟩:=J4a hn;subst hk;have hle:=h.le;have hcap:=h.cap;have H:=hZ h;have HR:=hZ hr;clear h hr ht hn;generalize hL:l.length=n at hle ⊢;have HL:=hZ hL;clear hL;go_enter func137,ntmps137;go_wp2
  go_loop [5,6] (fun a i=>∃ (j:Nat) (m:Int),j<=n/\i = .int .i64 j/\a = .int .i64 m /\ -4611686018427387904 < m/\m < 4611686018427387904/\Hid (Hp.sums (l.drop j) j m=some r)) (fun _ i=>n-(intOf i).toNat)
  case atStart=>exact ⟨0,_,G9c _,rfl,rfl,hn1,hn2,HR⟩
  case round=>
   obtain ⟨j,m,hj,rfl,rfl,hm1,hm2,HS⟩:=hrel
   by_cases hlt:j < n
   . have hjl:j < l.length:=by rw [HL.out];exact hlt
     have hs:=HS.out;rw [q8b hjl] at hs;obtain ⟨f,hf,hs⟩:=s0b.1 hs;obtain ⟨m',hm',hs⟩:=s0b.1 hs;obtain ⟨hfe,hf1,hf2⟩:=J4a hf;obtain ⟨rfl,hm3,hm4⟩:=J4a hm';rw [<- hfe] at hf1 hf2;obtain ⟨b,o,rfl,hb,hc⟩:=H.out.cells (by omega);have g:=hc j f (by unfold Hp.rd;rw [r1b hjl,hfe]);have HT:=hZ hs;clear hs hf hfe hm' hc HS;generalize he:((j:Int)+1) * f=q at hm3 hm4 HT;have e2:wrap64 (((j:Int)+1) * f)=q:=by rw [he];exact z8b _ ⟨by omega,by omega⟩
     clear he;go_wp2
     go_round
     case rel=>exact ⟨j+1,m+q,by omega,by go_num,rfl,hm3,hm4,HT⟩
     case measure=>simp [intOf];omega
   have:j=n:=by omega
   subst this;have hs:=HS.out;rw [s5b (by rw [HL.out];exact H0c _)] at hs;obtain rfl:m=r:=by simpa [Hp.sums] using hs
   clear hs HS HR;obtain ⟨q1,q2,q3⟩:=i4b m;have Q:=hZ q3;clear q3;have q4 : -9223372036854775808<=m.tmod 16+16:=by omega
   have q5:m.tmod 16+16<=9223372036854775807:=by omega
   have q6:0<=m.tmod 16+16:=by omega
   go_wp2;go_returns;refine ⟨?_,exx⟩;show Ending.returned (Value.int IntKind.i64 (m.tmod 16 % 16))=_;rw [Q.out]
theorem L5b {f n:Int} (h1:f=0 -> -9999<=n/\n<=9999) (h2:f ≠ 0->n=0) (h3:0<=f) (h4:f<=4) :
    Calls prog 134 #[.agg #[.int .u8 f,.int .i64 n]] w (Rt w (.bool true)):=by
  by_cases h0:f=0
  . subst h0;obtain ⟨k1,k2⟩:=h1 rfl;have e:Hp.within (-9999) 9999 n=true:=by simp [Hp.within,k1,k2]
    have IN:=hZ (fun W=>e ▸ dIn n (-9999) 9999 W);clear h1 h2 e;go_enter func134,ntmps134
    go_wp2_with (go_at_call 66;refine m4_ (IN.out _) fun w1 hb1 hc1 hf1 hs1=>?_;obtain ⟨hz1_0,hc1_0,hf1_0⟩:=c3_ hb1 w.heap.size)
    go_returns;exact ⟨rfl,exx⟩
  have hn:=h2 h0;subst hn;have t0:(f == 0)=false:=by simpa using h0
  have t1:decide (f<=4)=true:=E5c h4;clear h1 h2;go_enter func134,ntmps134
  go_wp2_with fail
  go_returns;exact ⟨rfl,exx⟩
def Q3a (S:Hp.Hs):List Int:=S.taken.map fun a:Nat=>(a:Int)
theorem Hp.Wf.pick_ {ch:Nat->List Nat} (h:Hp.Wf S B L ch):pick false L=Q3a S:=by
 rw [J3b,<- h.taken]
 rfl
theorem c2a {r:Rd} {ch:Nat->List Nat} (h:RAt w r S) (hw:Hp.Wf S B L ch):Calls prog 82 #[.pointer (some ⟨r.rb,0,none⟩)] w (Y6a w (Q3a S)):=by
 rw [<- hw.pick_]
 exact rCells h hw.fr.toFr hw.hi hw.parts
theorem K6b:x ∈ Q3a S ↔ ∃ a ∈ S.taken,x=(a:Int):=by
 unfold Q3a
 rw [F7c]
 constructor
 . rintro ⟨a,h1,h2⟩;exact ⟨a,h1,h2.symm⟩
 rintro ⟨a,h1,h2⟩
 exact ⟨a,h1,h2.symm⟩
theorem b3a {b:Bool} (hb:l.contains x=b) (h:SliceAt w p c l):Calls prog 85 #[.slice p l.length c,.int .i64 x] w (Rt w (.bool b)):=by
 rw [<- hb]
 exact rHas h
theorem rIs {r:Rd} {ch:Nat->List Nat} (h:RAt w r S) (hw:Hp.Wf S B L ch) (x:Int):Calls prog 26 #[.pointer (some ⟨r.rb,0,none⟩),.int .i64 x] w (Rt w (.bool ((Q3a S).contains x))):=by
 have HC:=hZ (c2a h hw)
 obtain ⟨b,hb⟩:∃ b,(Q3a S).contains x=b:=⟨_,rfl⟩
 rw [hb]
 have HB:=hZ hb
 clear h hw hb
 go_enter func26,ntmps26
 go_wp2_with (first
  | (go_at_call 82;refine HC.out.mono ?_;rintro e w1 ⟨p,c,rfl,hR,hE⟩;have SA:=hZ hR.at_)
  | (go_at_call 85;refine (b3a HB.out SA.out).mono ?_;rintro e w2 ⟨rfl,hE2⟩))
 go_returns
 exact ⟨rfl,hE.trans hE2⟩
theorem fieldAt {r:Rd} {ch:Nat->List Nat} (h:RAt w r S) (hw:Hp.Wf S B L ch) (ha:a ∈ S.taken):SliceAt w (some ⟨r.gb,r.go+(a+4),none⟩) (r.wc-(a+4)) (Hp.fz (Hp.ow S.words) S.sizes a):=by
 have pa:=hw.part ha
 have hle:=h.words.le
 have hcap:=h.words.cap
 obtain ⟨b,o,e,hb,hc⟩:=h.words.cells (by omega)
 cases e
 refine ⟨by rw [Hp.D7a];omega,by omega,fun x hx=>?_,fun _=>⟨r.gb,r.go+(a+4),rfl,hb,fun j x hx=>?_⟩⟩
 . have:=hw.H7b ha x hx;omega
 have hj:=G0a hx
 rw [Hp.D7a] at hj
 unfold Hp.rd Hp.fz at hx
 rw [Hp.I5a hj] at hx
 cases hx
 have:=hc (a+4+j) _ (Hp.F7a (by omega))
 rw [F0c,F0c]
 rw [F0c] at this
 exact this
theorem G0b {r:Rd} {ch:Nat->List Nat} (h:RAt w r S) (hw:Hp.Wf S B L ch) (ha:a ∈ S.taken) :
    Calls prog 88 #[.pointer (some ⟨r.rb,0,none⟩),.int .i64 a] w (Rt w (.slice (some ⟨r.gb,r.go+(a+4),none⟩) (Hp.fz (Hp.ow S.words) S.sizes a).length (r.wc-(a+4)))):=by
  have pa:=hw.part ha;have hle:=h.words.le;have hcap:=h.words.cap;have LONG:=hZ (fun W (hW:Ext w W)=>K0a (h.ext hW) hw.fr.toFr (a:=a) (by omega) (hw.cells.tags a ha));rw [Hp.D7a];have c2:=h.c2;have hlt:=h.lt;have hhi:=hw.hi;clear h hw ha;generalize S.words.length=n at *;generalize hk:Hp.wz S.sizes (Hp.ow S.words a)=k at *;clear hk;have s1:IntKind.i64.wrap ((a:Int)+4)=(a:Int)+4:=E4c _ (by omega);have s2:IntKind.i64.wrap ((a:Int)+(k:Int))=(a:Int)+(k:Int):=E4c _ (by omega);have s3:(0:Int)<=(a:Int)+4:=by omega
  have s4:(a:Int)+4<=(a:Int)+(k:Int):=by omega
  have s5:(a:Int)+(k:Int)<=(r.wc:Int):=by omega
  have s6:((a:Int)+4).toNat=a+4:=by omega
  have s7:((a:Int)+(k:Int)).toNat=a+k:=by omega
  have s8:a+k-(a+4)=k-4:=by omega
  have cne:¬ r.wc=a+4:=by omega
  go_enter func88,ntmps88
  go_wp2_with fail
  have pr29a:=Ext.r c2
  refine rg0 w ?_
  refine' tkd 0 ?_;refine' tkd 2 ?_;refine' tkd 4 ?_;refine' tkd 6 ?_;refine' tkL 8 ?_;refine' tkR 9 (v:=.int .i64 k) rfl (Or.inr ⟨by rfl,67,_, ?hx9_577, ?hy9_577⟩) ?rest9_577
  case hx9_577=>(intro w hSw;go_simp;try with_reducible rfl)
  case hy9_577=>exact fun w hE=>(LONG.out _ hE).mono (fun _ _ h=>⟨h.1,h.2,Ext.trans hE h.2⟩)
  refine layy ?_;refine' tkd 10 ?_;refine' tkL 12 ?_;refine A0a (by kernel_rfl) ?_ _;intro x1 _ Ex1;clear pr29a;go_wp2;go_returns;exact ⟨rfl,exx⟩
theorem L1a (hj:j < S.taken.length):∃ a ∈ S.taken,S.taken[j]? = some a/\Hp.rd (Q3a S) j=some (a:Int):=by
 refine ⟨S.taken[j],A4c hj,r1b hj, ?_⟩
 simp [Hp.rd,Q3a,hj]
theorem B8a (S:Hp.Hs):(Q3a S).length=S.taken.length:=by simp [Q3a]
theorem rSame {r:Rd} {ch:Nat->List Nat} (h:RAt w r S) (hw:Hp.Wf S B L ch) (ha:a ∈ S.taken) (hq:SliceAt w q qc (Hp.fz (Hp.ow S.words) S.sizes a)) :
    Calls prog 133 #[.pointer (some ⟨r.rb,0,none⟩),.int .i64 (Hp.ow S.words a),.slice q (Hp.fz (Hp.ow S.words) S.sizes a).length qc] w (Rt w (.int .i64 (a:Int))):=by
  have CELLS:=hZ (c2a h hw);have FLD:=hZ (fun b (hb:b ∈ S.taken) W (hW:Ext w W)=>G0b (h.ext hW) hw hb);have FAT:=hZ (fun b (hb:b ∈ S.taken) W (hW:Ext w W)=>fieldAt (h.ext hW) hw hb);have HQ:=hZ hq;have H:=hZ h;have HW:=hZ hw;have few:=hw.few;have hhi:=hw.hi;have hle:=h.words.le;have hcap:=h.words.cap;have hlt:=h.lt;have qcap:=hq.cap;obtain ⟨gbb,o',hp',hbb,_⟩:=h.words.cells (by have:=hw.lo;omega)
  cases hp'
  obtain ⟨fs,hfs⟩:∃ fs,Hp.fz (Hp.ow S.words) S.sizes a=fs:=⟨_,rfl⟩
  have HFS:=hZ hfs;obtain ⟨t,ht⟩:∃ t,Hp.ow S.words a=t:=⟨_,rfl⟩
  have HT:=hZ ht;have c2:=h.c2;obtain ⟨n,hn⟩:∃ n,S.words.length=n:=⟨_,rfl⟩
  have EN:=hZ hn;rw [hfs,ht];rw [hn] at c2 hle few hhi;have HA:=hZ ha;have qle:=hq.le;rw [hfs] at qle;clear h hw hq hfs ht hn ha;obtain ⟨m,hm⟩:∃ m,S.taken.length=m:=⟨_,rfl⟩
  have EM:=hZ hm;rw [hm] at few;clear hm;go_enter func133,ntmps133
  go_wp2_with (go_at_call 82;refine CELLS.out.mono ?_;rintro e w1 ⟨p,c,rfl,hR,hE⟩;rw [B8a,EM.out];have RR:=hZ hR.at_;have E1:=hZ hE)
  clear hR hE CELLS;have lle:=RR.out.le;have lcap:=RR.out.cap;rw [B8a,EM.out] at lle
  go_loopg [8] m (fun g i wr=>∃ j:Nat,j<=m/\m-j<=g/\i = .int .i64 j/\Hid (Ext w1 wr)/\Hid (∀ i,i < j->S.taken[i]? ≠ some a))
  case atStart=>exact ⟨0,G9c _,by omega,rfl,hZ (Ext.refl _),hZ (fun i hi=>absurd hi (D0c _))⟩
  case round=>
   obtain ⟨j,hj,hg,rfl,E,A⟩:=hrel
   by_cases hlt2:j < m
   . obtain ⟨b,hb,hbj,hrd⟩:=L1a (S:=S) (j:=j) (by rw [EM.out];exact hlt2);obtain ⟨lb,lo,hlp,hlbb,hlc⟩:=(RR.out.ext E.out).cells (by rw [B8a,EM.out];omega);have gl:=hlc j _ hrd;have Ew:=E1.out.trans E.out;have c2w:=Ew.q c2;have gw:=(H.out.ext Ew).get (j:=b) (by have:=HW.out.part hb;omega);have pb:=HW.out.part hb;rw [EN.out] at pb;have zb:r.rb < wr.heap.size:=x4b hlt Ew.le;have zg:r.gb < wr.heap.size:=x4b hbb Ew.le;have b1:b < n:=by omega
     have EW:=hZ Ew;have HB:=hZ hb;have HBJ:=hZ hbj;have FLB:=hZ (fun W (hW:Ext w W)=>FLD.out b hb W hW);have FAB:=hZ (fun W (hW:Ext w W)=>FAT.out b hb W hW);obtain ⟨fl,hfl⟩:∃ fl,(Hp.fz (Hp.ow S.words) S.sizes b).length=fl:=⟨_,rfl⟩
     have EFL:=hZ hfl;have tk:decide ((j:Int) < (m:Int))=true:=dT;clear hrd hlc hbj hb pb hfl;subst hlp
     by_cases hba:b=a
     . subst hba;rw [HT.out] at gw;have t0:(t == t)=true:=by simp
       have FLB2:Hid (∀ W,Ext w W->Calls prog 88 #[.pointer (some ⟨r.rb,0,none⟩),.int .i64 b] W fun e w'=>e = .returned (.slice (some ⟨r.gb,r.go+(b+4),none⟩) fs.length (r.wc-(b+4)))/\Ext W w'):=hZ (fun W hW=>by rw [<- HFS.out];exact FLB.out W hW);have SM:Hid (∀ W,Ext w W->Calls prog 24 #[.slice (some ⟨r.gb,r.go+(b+4),none⟩) fs.length (r.wc-(b+4)),.slice q fs.length qc] W fun e w'=>e = .returned (.bool true)/\Ext W w'):=hZ (fun W hW=>by
        have:=I6a (b:=true) (E5c rfl) (FAB.out W hW) (HQ.out.ext hW);rw [HFS.out] at this;exact this)
       go_wp2_with fail
       have pr30a:=Ext.r c2w;have pr30b:=Ext.r gl;have pr30c:=Ext.r gw
       refine rg0 wr ?_
       refine' tkd 0 ?_;refine' tkd 2 ?_;refine' tkd 4 ?_;refine' tkd 6 ?_;refine' tkd 8 ?_;refine' tkd 10 ?_;refine' tkd 12 ?_;refine' tkd 14 ?_;refine' tkd 16 ?_;refine' tkR 18 (v:=.slice (some ⟨r.gb,r.go+(b+4),none⟩) fs.length (r.wc-(b+4))) rfl (Or.inr ⟨by rfl,88,_, ?hx18_599, ?hy18_599⟩) ?rest18_599
       case hx18_599=>(intro w hSw;go_simp;try with_reducible rfl)
       case hy18_599=>exact fun w hE=>(FLB2.out _ (EW.out.trans hE)).mono (fun _ _ h=>⟨h.1,h.2,Ext.trans hE h.2⟩)
       refine layy ?_;refine' tkL 19 ?_;refine' tkR 20 (v:=.bool true) rfl (Or.inr ⟨by rfl,24,_, ?hx20_601, ?hy20_601⟩) ?rest20_601
       case hx20_601=>(intro w hSw;go_simp;try with_reducible rfl)
       case hy20_601=>exact fun w hE=>(SM.out _ (EW.out.trans hE)).mono (fun _ _ h=>⟨h.1,h.2,Ext.trans hE h.2⟩)
       refine layy ?_;refine' tkL 21 ?_;refine A0a (by kernel_rfl) ?_ _;intro x1 _ Ex1;clear pr30a pr30b pr30c;have gl2:=Ex1.q gl
       go_wp2_with fail
       go_returns;exact ⟨rfl,EW.out.trans Ex1⟩
     have A2:Hid (∀ i,i < j+1->S.taken[i]? ≠ some a):=hZ (fun i hi=>by
      by_cases e:i=j
      . subst e;rw [HBJ.out]
        simpa using hba
      . exact A.out i (by omega))
     by_cases hbt:Hp.ow S.words b=t
     . rw [hbt] at gw;have t0:(t == t)=true:=by simp
       have FLB2:Hid (∀ W,Ext w W->Calls prog 88 #[.pointer (some ⟨r.rb,0,none⟩),.int .i64 b] W fun e w'=>e = .returned (.slice (some ⟨r.gb,r.go+(b+4),none⟩) fl (r.wc-(b+4)))/\Ext W w'):=hZ (fun W hW=>by rw [<- EFL.out];exact FLB.out W hW);have SM:Hid (∀ W,Ext w W->Calls prog 24 #[.slice (some ⟨r.gb,r.go+(b+4),none⟩) fl (r.wc-(b+4)),.slice q fs.length qc] W fun e w'=>e = .returned (.bool false)/\Ext W w'):=hZ (fun W hW=>by
        have:=I6a (b:=false) (D7c (fun e=>hba (HW.out.cells.one b HB.out a HA.out (hbt.trans HT.out.symm) e))) (FAB.out W hW) (HQ.out.ext hW);rw [HFS.out,EFL.out] at this;exact this)
       clear hbt hba
       go_wp2_with fail
       have pr31a:=Ext.r c2w;have pr31b:=Ext.r gl;have pr31c:=Ext.r gw
       refine rg0 wr ?_
       refine' tkd 0 ?_;refine' tkd 2 ?_;refine' tkd 4 ?_;refine' tkd 6 ?_;refine' tkd 8 ?_;refine' tkd 10 ?_;refine' tkd 12 ?_;refine' tkd 14 ?_;refine' tkd 16 ?_;refine' tkR 18 (v:=.slice (some ⟨r.gb,r.go+(b+4),none⟩) fl (r.wc-(b+4))) rfl (Or.inr ⟨by rfl,88,_, ?hx18_621, ?hy18_621⟩) ?rest18_621
       case hx18_621=>(intro w hSw;go_simp;try with_reducible rfl)
       case hy18_621=>exact fun w hE=>(FLB2.out _ (EW.out.trans hE)).mono (fun _ _ h=>⟨h.1,h.2,Ext.trans hE h.2⟩)
       refine layy ?_;refine' tkL 19 ?_;refine' tkR 20 (v:=.bool false) rfl (Or.inr ⟨by rfl,24,_, ?hx20_623, ?hy20_623⟩) ?rest20_623
       case hx20_623=>(intro w hSw;go_simp;try with_reducible rfl)
       case hy20_623=>exact fun w hE=>(SM.out _ (EW.out.trans hE)).mono (fun _ _ h=>⟨h.1,h.2,Ext.trans hE h.2⟩)
       refine layy ?_;refine' tkL 21 ?_;refine A0a (by kernel_rfl) ?_ _;intro x1 _ Ex1;clear pr31a pr31b pr31c;have E2:=hZ (E.out.trans Ex1)
       go_wp2_with fail
       go_roundg (m-(j+1))
       case measure=>omega
       case rel=>exact ⟨j+1,by omega,H0c _,by go_num,E2,A2⟩
     have t0:(Hp.ow S.words b == t)=false:=by simpa using hbt
     clear hbt hba;generalize Hp.ow S.words b=y at *
     go_wp2_with fail
     have pr32a:=Ext.r c2w;have pr32b:=Ext.r gl;have pr32c:=Ext.r gw
     refine rg0 wr ?_
     refine' tkd 0 ?_;refine' tkd 2 ?_;refine' tkd 4 ?_;refine' tkd 6 ?_;refine' tkd 8 ?_;refine' tkd 10 ?_;refine' tkL 12 ?_;refine' tkN 13 ?_;refine' tkN 14 ?_;refine' tkN 15 ?_;refine' tkN 16 ?_;refine' tkN 17 ?_;refine' tkN 18 ?_;refine' tkN 19 ?_;refine' tkN 20 ?_;refine' tkL 21 ?_;refine A0a (by kernel_rfl) ?_ _;intro x1 _ Ex1;clear pr32a pr32b pr32c;have E2:=hZ (E.out.trans Ex1)
     go_wp2_with fail
     go_roundg (m-(j+1))
     case measure=>omega
     case rel=>exact ⟨j+1,by omega,H0c _,by go_num,E2,A2⟩
   exfalso;have:j=m:=by omega
   subst this;obtain ⟨i,hi,e⟩:=u9b HA.out;exact A.out i (by rw [<- EM.out];exact hi) (by rw [r1b hi,e])
theorem H9b (h:SliceAt w p c l) (hb:∀ s ∈ l,1<=s/\s<=12) :
    Calls prog 119 #[.slice p l.length c,.int .i64 0] w (Rt w (.int .i64 (Hp.X3a l))):=by
  have hle:=h.le;have hcap:=h.cap;have H:=hZ h;have HB:=hZ hb;clear h hb;obtain ⟨n,hL⟩:∃ n,l.length=n:=⟨_,rfl⟩
  have HL:=hZ hL;rw [hL] at hle ⊢;clear hL;go_enter func119,ntmps119
  go_wp2_with fail
  go_loopg [5,6] n (fun g s i wr=>∃ (j:Nat) (m:Int),j<=n/\n-j<=g/\i = .int .i64 j/\s = .int .i64 m/\0<=m/\m<=3000/\Hid (m=Hp.X3a (l.take j))/\Hid (Ext w wr))
  case atStart=>exact ⟨0,1,G9c _,by omega,rfl,rfl,by omega,by omega,hZ rfl,hZ exx⟩
  case round=>
   obtain ⟨j,m,hj,hg,rfl,rfl,hm0,hm1,HP,E⟩:=hrel
   by_cases hlt:j < n
   . obtain ⟨x,hx⟩:=A4a (l:=l) (j:=j) (by rw [HL.out];exact hlt);have hxb:=HB.out x (u1b hx);obtain ⟨b,o,rfl,hb,hcell⟩:=(H.out.ext E.out).cells (by rw [HL.out];omega);have gx:=hcell j x hx;have hp1:m * x<=36000:=by
      have:=E1c hm1 hxb.2 (by omega) (by omega);omega
     have hp0:0<=m * x:=Int.mul_nonneg hm0 (by omega);have HP2:=hZ (show min 3000 (m * x)=Hp.X3a (l.take (j+1)) by rw [b8a hx,Hp.K8b,HP.out]);clear hcell hx hxb HP;generalize he:m * x=qv at hp0 hp1 HP2;have e2:wrap64 (m * x)=qv:=by rw [he];exact z8b _ ⟨by omega,by omega⟩
     clear he
     go_wp2_with fail
     go_roundg (n-(j+1))
     case measure=>omega
     case rel=>exact ⟨j+1,min 3000 qv,by omega,H0c _,by go_num,rfl,by omega,by omega,HP2,E⟩
   have:j=n:=by omega
   subst this;have hp:=HP.out;rw [<- HL.out,A8c] at hp;subst hp
   go_wp2_with fail
   go_returns;exact ⟨rfl,E.out⟩
theorem F4b {d:Nat} {b:Bool} (h:SliceAt w q d o) (hn:n<=1000) (hb:b=true ↔ Hp.O6b n o) :
    Calls prog 120 #[.slice p n c,.slice q o.length d] w (Rt w (.bool b)):=by
  have hle:=h.le;have hcap:=h.cap;have H:=hZ h;have HB:=hZ hb;clear h hb
  by_cases hq:o.length=n
  . rw [hq] at hle ⊢;have HL:=hZ hq;clear hq;have tq:((n:Int) != (n:Int))=false:=by simp
    go_enter func120,ntmps120
    go_wp2_with fail
    go_loopg [5] n (fun g i wr=>∃ j:Nat,j<=n/\n-j<=g/\i = .int .i64 j/\Hid (Hp.n3b n o j)/\Hid (Ext w wr))
    case atStart=>exact ⟨0,G9c _,by omega,rfl,hZ (fun k x hk=>by omega),hZ exx⟩
    case round=>
     obtain ⟨j,hj,hg,rfl,A,E⟩:=hrel
     by_cases hlt:j < n
     . obtain ⟨x,hx⟩:=A4a (l:=o) (j:=j) (by rw [HL.out];exact hlt);have HX:=hZ hx;obtain ⟨bb,oo,rfl,hbb,hcell⟩:=(H.out.ext E.out).cells (by rw [HL.out];omega);have gx:=hcell j x hx;have HC:=hZ hcell;have tk:decide ((j:Int) < (n:Int))=true:=dT;have sb:IntKind.i64.wrap ((n:Int)-1)=(n:Int)-1:=E4c _ (by omega);clear hcell hx
       cases hw:Hp.within 0 ((n:Int)-1) x with
       | false=>
        have hbf:b=false:=by
         cases b with
         | false=>rfl
         | true=>
          have h1:=(HB.out.1 rfl).2 j x hlt HX.out;simp [Hp.within,h1.1] at hw
        subst hbf;have HI:=hZ (fun W=>hw ▸ dIn x 0 ((n:Int)-1) W);clear hw
        go_wp2_with (go_at_call 66;refine m4_ (HI.out _) fun w1 hb1 hc1 hf1 hs1=>?_)
        go_returns;exact ⟨rfl,E.out.trans hb1⟩
       | true=>
        have hwi:0<=x/\x<=(n:Int)-1:=by simpa [Hp.within] using hw
        have HI:=hZ (fun W=>hw ▸ dIn x 0 ((n:Int)-1) W);clear hw
        go_wp2_with (go_at_call 66;refine m4_ (HI.out _) fun w1 hb1 hc1 hf1 hs1=>?_)
        have E1:=hZ (E.out.trans hb1);have E1l:=hZ hb1;have zb:=x4b hbb hb1.le
        go_loopg [6] (j+1) (fun g i wr=>∃ k:Nat,k<=j/\j+1-k<=g/\i = .int .i64 k/\Hid (∀ m y,m < k->Hp.rd o m=some y->y ≠ x)/\Hid (Ext w1 wr))
        case atStart=>exact ⟨0,G9c _,by omega,rfl,hZ (fun m y hm=>by omega),hZ (Ext.refl _)⟩
        case round=>
         obtain ⟨k,hk,hg2,rfl,A2,E2⟩:=hrel
         by_cases hkj:k < j
         . obtain ⟨y,hy⟩:=A4a (l:=o) (j:=k) (by rw [HL.out];omega);have HY:=hZ hy;have gx':=E2.out.q (E1l.out.q gx);have gy':=E2.out.q (E1l.out.q (HC.out k y hy));have zr:=x4b zb E2.out.le;have tk2:decide ((k:Int) < (j:Int))=true:=dT;have kn:k < n:=by omega
           clear hy
           by_cases hxy:y=x
           . have t0:(y == x)=true:=by simpa using hxy
             have hbf:b=false:=by
              cases b with
              | false=>rfl
              | true=>exact absurd hxy (((HB.out.1 rfl).2 j x hlt HX.out).2 k y hkj HY.out)
             subst hbf;clear hxy
             go_wp2_with fail
             have pr33a:=Ext.r gx';have pr33b:=Ext.r gy'
             refine rg0 wr ?_
             refine' tkd 0 ?_;refine' tkd 2 ?_;refine' tkd 4 ?_;refine' tkd 6 ?_;refine' tkL 8 ?_;refine A0a (by kernel_rfl) ?_ _;intro x1 _ Ex1;clear pr33a pr33b
             go_wp2_with fail
             go_returns;exact ⟨rfl,(E1.out.trans E2.out).trans Ex1⟩
           have t0:(y == x)=false:=by simpa using hxy
           have A3:=hZ (show ∀ m z,m < k+1->Hp.rd o m=some z->z ≠ x from fun m z hm hz=>by
            by_cases e:m=k
            . subst e;rw [HY.out] at hz
              cases hz
              exact hxy
            . exact A2.out m z (by omega) hz)
           clear hxy
           go_wp2_with fail
           have pr34a:=Ext.r gx';have pr34b:=Ext.r gy'
           refine rg0 wr ?_
           refine' tkd 0 ?_;refine' tkd 2 ?_;refine' tkd 4 ?_;refine' tkd 6 ?_;refine' tkL 8 ?_;refine A0a (by kernel_rfl) ?_ _;intro x1 _ Ex1;clear pr34a pr34b;have E3:=hZ (E2.out.trans Ex1)
           go_wp2_with fail
           go_roundg (j+1-(k+1))
           case measure=>omega
           case rel=>exact ⟨k+1,by omega,H0c _,by go_num,A3,E3⟩
         have tk2:decide ((k:Int) < (j:Int))=false:=dF;have:k=j:=by omega
         subst this;have E3:=hZ (E1.out.trans E2.out);have A3:=hZ (show Hp.n3b n o (k+1) from fun m z hm hz=>by
          by_cases e:m=k
          . subst e;rw [HX.out] at hz
            cases hz
            exact ⟨hwi,A2.out⟩
          . exact A.out m z (by omega) hz)
         go_wp2_with fail
         go_roundg (n-(k+1))
         case measure=>omega
         case rel=>exact ⟨k+1,by omega,H0c _,by go_num,A3,E3⟩
     have:j=n:=by omega
     subst this;have tk:decide ((j:Int) < (j:Int))=false:=dF;have hbt:b=true:=HB.out.2 ⟨HL.out,A.out⟩;subst hbt
     go_wp2_with fail
     go_returns;exact ⟨rfl,E.out⟩
  have tq:((o.length:Int) != (n:Int))=true:=by
   have:(o.length:Int) ≠ (n:Int):=by omega
   simpa using this
  have hbf:b=false:=by
   cases b with
   | false=>rfl
   | true=>exact absurd (HB.out.1 rfl).1 hq
  subst hbf;clear hq;go_enter func120,ntmps120
  go_wp2_with fail
  go_returns;exact ⟨rfl,exx⟩
theorem R6a {d:Nat} (hs:SliceAt w p c z) (ho:SliceAt w q d o) :
    Calls prog 57 #[.slice p z.length c,.slice q o.length d] w (Rt w (.int .i64 (Hp.A2a z o))):=by
  have hle:=hs.le;have hcap:=hs.cap;have H:=hZ hs;have HO:=hZ ho;clear hs ho
  by_cases h6:z.length > 6
  . have e:Hp.A2a z o=5:=by unfold Hp.A2a;rw [H5c h6]
    have t6:decide ((z.length:Int) > 6)=true:=dT;rw [e];clear e;go_enter func57,ntmps57
    go_wp2_with fail
    go_returns;exact ⟨rfl,exx⟩
  obtain ⟨ee,hee⟩:∃ ee,Hp.A2a z o=ee:=⟨_,rfl⟩
  rw [hee];have HE:=hZ hee;clear hee;obtain ⟨n,hL⟩:∃ n,z.length=n:=⟨_,rfl⟩
  have HL:=hZ hL;rw [hL] at hle h6 ⊢;clear hL;have t6:decide ((n:Int) > 6)=false:=dF;go_enter func57,ntmps57
  go_wp2_with fail
  go_loopg [5] n (fun g i wr=>∃ j:Nat,j<=n/\n-j<=g/\i = .int .i64 j/\Hid (∀ k x,k < j->Hp.rd z k=some x->1<=x/\x<=12)/\Hid (Ext w wr))
  case atStart=>exact ⟨0,G9c _,by omega,rfl,hZ (fun k x hk=>by omega),hZ exx⟩
  case round=>
   obtain ⟨j,hj,hg,rfl,A,E⟩:=hrel
   by_cases hlt:j < n
   . obtain ⟨x,hx⟩:=A4a (l:=z) (j:=j) (by rw [HL.out];exact hlt);have HX:=hZ hx;obtain ⟨bb,oo,rfl,hbb,hcell⟩:=(H.out.ext E.out).cells (by rw [HL.out];omega);have gx:=hcell j x hx;have tk:decide ((j:Int) < (n:Int))=true:=dT;clear hcell hx
     cases hw:Hp.within 1 12 x with
     | false=>
      have he:ee=3:=by
       have h1:=HE.out;unfold Hp.A2a at h1;rw [H4c (by have:=HL.out;omega),H5c] at h1
       . exact h1.symm
       apply r0b;intro hc;have h2:=A7c.1 (by simpa using hc:z.all (fun n=>decide (1<=n) && decide (n<=12))=true) x (u1b HX.out);have h3:Hp.within 1 12 x=true:=h2;rw [hw] at h3
       cases h3
      subst he;have HI:=hZ (fun W=>hw ▸ dIn x 1 12 W);clear hw
      go_wp2_with (go_at_call 66;refine m4_ (HI.out _) fun w1 hb1 hc1 hf1 hs1=>?_)
      go_returns;exact ⟨rfl,E.out.trans hb1⟩
     | true=>
      have hwi:1<=x/\x<=12:=by simpa [Hp.within] using hw
      have HI:=hZ (fun W=>hw ▸ dIn x 1 12 W);clear hw;have A3:=hZ (show ∀ k y,k < j+1->Hp.rd z k=some y->1<=y/\y<=12 from fun m y hm hy=>by
       by_cases e:m=j
       . subst e;rw [HX.out] at hy
         cases hy
         exact hwi
       . exact A.out m y (by omega) hy)
      go_wp2_with (go_at_call 66;refine m4_ (HI.out _) fun w1 hb1 hc1 hf1 hs1=>?_)
      have E3:=hZ (E.out.trans hb1)
      go_roundg (n-(j+1))
      case measure=>omega
      case rel=>exact ⟨j+1,by omega,H0c _,by go_num,A3,E3⟩
   have:j=n:=by omega
   subst this;have tk:decide ((j:Int) < (j:Int))=false:=dF;have hb:∀ s ∈ z,1<=s/\s<=12:=fun s hs=>by
    obtain ⟨k,hk,rfl⟩:=u9b hs;exact A.out k _ (by have:=HL.out;omega) (r1b hk)
   have hall:z.all (fun n=>decide (1<=n) && decide (n<=12))=true:=A7c.2 fun x hx=>by
    have:=hb x hx;simp only [B8c,A1c];exact this
   have he0:Hp.A2a z o=(if z.foldl (· * ·) 1 > 2000 then 5 else if Hp.Z9a o=Hp.upto z.length then 0 else 4:Int):=by
    unfold Hp.A2a;rw [H4c (show ¬ z.length > 6 by have:=HL.out;omega),H4c (by rw [hall];simp)]
   rw [HE.out] at he0;have he:=he0.symm;clear he0;have PR:=hZ (fun E1=>HL.out ▸ H9b (H.out.ext (w':=wr) E1) hb);have big:=Hp.V5b hb;generalize Hp.X3a z=pm at PR big;clear A hall
   by_cases h2:pm > 2000
   . rw [H5c (big.1 h2)] at he;subst he;have t2:decide (pm > 2000)=true:=E5c h2;clear big
     go_wp2_with (go_at_call 119;refine m4_ (PR.out E.out) fun w1 hb1 hc1 hf1 hs1=>?_)
     go_returns;exact ⟨rfl,E.out.trans hb1⟩
   rw [H4c (fun h=>h2 (big.2 h))] at he;have t2:decide (pm > 2000)=false:=D7c h2;clear big;have OI:=Hp.x1a (o:=o) (n:=z.length);rw [HL.out] at OI he
   by_cases h3:Hp.Z9a o=Hp.upto j
   . rw [H5c h3] at he;subst he;have IO:=hZ (fun (W:World) (E1:Ext w W)=>F4b (p:=p) (c:=c) (n:=j) (b:=true) (HO.out.ext E1) (by omega) ⟨fun _=>OI.2 h3,fun _=>rfl⟩);clear OI h3
     go_wp2_with (first
      | (go_at_call 119;refine m4_ (PR.out E.out) fun w1 hb1 hc1 hf1 hs1=>?_)
      | (go_at_call 120;refine m4_ (IO.out _ (E.out.trans hb1)) fun w2 hb2 hc2 hf2 hs2=>?_))
     go_returns;exact ⟨rfl,(E.out.trans hb1).trans hb2⟩
   rw [H4c h3] at he;subst he;have IO:=hZ (fun (W:World) (E1:Ext w W)=>F4b (p:=p) (c:=c) (n:=j) (b:=false) (HO.out.ext E1) (by omega) ⟨fun h=>absurd h (by decide),fun h=>absurd (OI.1 h) h3⟩);clear OI h3
   go_wp2_with (first
    | (go_at_call 119;refine m4_ (PR.out E.out) fun w1 hb1 hc1 hf1 hs1=>?_)
    | (go_at_call 120;refine m4_ (IO.out _ (E.out.trans hb1)) fun w2 hb2 hc2 hf2 hs2=>?_))
   go_returns;exact ⟨rfl,(E.out.trans hb1).trans hb2⟩
theorem dMany (h:SliceAt w p c l) (hb:∀ s ∈ l,1<=s/\s<=12) :
    Calls prog 89 #[.slice p l.length c] w (Rt w (.int .i64 (Hp.X3a l))):=by
  have P:=hZ (H9b h hb);clear h hb;go_enter func89,ntmps89
  go_wp2_with (go_at_call 119;refine m4_ (P.out) fun w1 hb1 hc1 hf1 hs1=>?_)
  go_returns;exact ⟨rfl,exx⟩
def Hp.c6a (z o:List Int):Bool:=decide (z.length<=8) && (decide (o.length<=8) && (decide (Hp.A2a z o ≠ 0) || decide (Hp.X3a z<=200)))
theorem dSlim {d:Nat} (hs:SliceAt w p c z) (ho:SliceAt w q d o) :
    Calls prog 56 #[.slice p z.length c,.slice q o.length d] w (Rt w (.bool (Hp.c6a z o))):=by
  have CF:=hZ (R6a hs ho);have HM:=hZ (fun (W:World) (E:Ext w W)=>dMany (hs.ext E));clear hs ho
  by_cases h1:z.length<=8
  . have t1:decide ((z.length:Int) > 8)=false:=dF
    by_cases h2:o.length<=8
    . have t2:decide ((o.length:Int) > 8)=false:=dF;have e:Hp.c6a z o=(decide (Hp.A2a z o ≠ 0) || decide (Hp.X3a z<=200)):=by simp [Hp.c6a,h1,h2]
      rw [e];clear e
      by_cases h3:Hp.A2a z o=0
      . have e:(decide (Hp.A2a z o ≠ 0) || decide (Hp.X3a z<=200))=decide (Hp.X3a z<=200):=by simp [h3]
        have hb:=(Hp.H8a h3).1.pos;have M:=hZ (fun (W:World) (E:Ext w W)=>HM.out W E hb);rw [e];have C:=hZ (h3 ▸ CF.out);clear e h3 hb CF HM;go_enter func56,ntmps56
        go_wp2_with (first
         | (go_at_call 57;refine m4_ (C.out) fun w1 hb1 hc1 hf1 hs1=>?_)
         | (go_at_call 89;refine m4_ (M.out _ hb1) fun w2 hb2 hc2 hf2 hs2=>?_))
        go_returns;exact ⟨rfl,hb1.trans hb2⟩
      have e:(decide (Hp.A2a z o ≠ 0) || decide (Hp.X3a z<=200))=true:=by simp [h3]
      have t3:(Hp.A2a z o != 0)=true:=by simpa using h3
      rw [e];clear e h3 HM;generalize Hp.A2a z o=fe at CF t3;go_enter func56,ntmps56
      go_wp2_with (go_at_call 57;refine m4_ (CF.out) fun w1 hb1 hc1 hf1 hs1=>?_)
      go_returns;exact ⟨rfl,exx⟩
    have t2:decide ((o.length:Int) > 8)=true:=dT;have e:Hp.c6a z o=false:=by simp [Hp.c6a,h2]
    rw [e];clear e CF HM;go_enter func56,ntmps56
    go_wp2_with fail
    go_returns;exact ⟨rfl,exx⟩
  have t1:decide ((z.length:Int) > 8)=true:=dT;have e:Hp.c6a z o=false:=by simp [Hp.c6a,h1]
  rw [e];clear e CF HM;go_enter func56,ntmps56
  go_wp2_with fail
  go_returns;exact ⟨rfl,exx⟩
theorem lFault {d:Nat} {n:Int} (hs:SliceAt w p c z) (ho:SliceAt w q d o) :
    Calls prog 18 #[.slice p z.length c,.slice q o.length d,.int .i64 n] w (Rt w (.int .i64 (Hp.G1a z o n))):=by
  have CF:=hZ (R6a hs ho);clear hs ho
  by_cases h3:Hp.A2a z o=0
  . have I:=hZ (fun W=>dIn n 32 40000 W);have C:=hZ (h3 ▸ CF.out);clear CF
    cases hw:Hp.within 32 40000 n with
    | true=>
     have e:Hp.G1a z o n=0:=by unfold Hp.G1a;rw [H4c (by simp [h3]),hw];rfl
     rw [e];rw [hw] at I;clear e hw h3;go_enter func18,ntmps18
     go_wp2_with (first
      | (go_at_call 57;refine m4_ (C.out) fun w1 hb1 hc1 hf1 hs1=>?_)
      | (go_at_call 66;refine m4_ (I.out _) fun w2 hb2 hc2 hf2 hs2=>?_))
     go_returns;exact ⟨rfl,hb1.trans hb2⟩
    | false=>
     have e:Hp.G1a z o n=3:=by unfold Hp.G1a;rw [H4c (by simp [h3]),hw];rfl
     rw [e];rw [hw] at I;clear e hw h3;go_enter func18,ntmps18
     go_wp2_with (first
      | (go_at_call 57;refine m4_ (C.out) fun w1 hb1 hc1 hf1 hs1=>?_)
      | (go_at_call 66;refine m4_ (I.out _) fun w2 hb2 hc2 hf2 hs2=>?_))
     go_returns;exact ⟨rfl,hb1.trans hb2⟩
  have e:Hp.G1a z o n=Hp.A2a z o:=by unfold Hp.G1a;rw [H5c h3]
  have t3:(Hp.A2a z o != 0)=true:=by simpa using h3
  rw [e];clear e h3;generalize Hp.A2a z o=fe at CF t3 ⊢;go_enter func18,ntmps18
  go_wp2_with (go_at_call 57;refine m4_ (CF.out) fun w1 hb1 hc1 hf1 hs1=>?_)
  go_returns;exact ⟨rfl,exx⟩
theorem M4b (h:∀ k,k < l.length->Hp.rd l k=Hp.rd l 0):Hp.Hs.alike l=true:=by
 unfold Hp.Hs.alike
 rw [A7c]
 intro x hx
 obtain ⟨k,hk,rfl⟩:=u9b hx
 have h1:=h k hk
 unfold Hp.rd at h1
 rw [r1b hk,r1b (by omega)] at h1
 cases l with
 | nil=>simp at hk
 | cons y r=>
  have:=D3c h1;simp only [s3b] at this;simp [this]
theorem D3b {y:Int} (h:Hp.rd l k=some x) (h0:Hp.rd l 0=some y) (hne:x ≠ y):Hp.Hs.alike l=false:=by
 cases ha:Hp.Hs.alike l with
 | false=>rfl
 | true=>
  unfold Hp.Hs.alike at ha;rw [A7c] at ha;have h1:=ha x (u1b h)
  cases l with
  | nil=>simp [Hp.rd] at h0
  | cons z r=>
   have e:z=y:=by simpa [Hp.rd] using h0
   subst e;have:x=z:=by simpa using h1
   exact absurd this hne
theorem Z9b {v:Int} {b:Bool} (h:SliceAt w p c l) (hb:Hp.Hs.alike l=b) :
    Calls prog 136 #[.agg #[.int .i64 v,.slice p l.length c]] w (Rt w (.bool b)):=by
  have hle:=h.le;have hcap:=h.cap;have H:=hZ h;have HB:=hZ hb;clear h hb;generalize hL:l.length=n at hle ⊢;have HL:=hZ hL;clear hL;go_enter func136,ntmps136
  go_wp2_with fail
  have E0:Ext w (w.alloc (.cells #[.int .i64 v,.slice p n c] 41)):=exx;have c1:(w.alloc (.cells #[.int .i64 v,.slice p n c] 41)).cell? ⟨w.heap.size,1,none⟩=some (.slice p n c):=by simp [go_sem]
  have z1:w.heap.size < (w.alloc (.cells #[.int .i64 v,.slice p n c] 41)).heap.size:=by simp
  generalize hB:w.heap.size=bx at c1 z1 ⊢;generalize w.alloc (.cells #[.int .i64 v,.slice p n c] 41)=w0 at *;have E0H:=hZ E0;clear E0 hB
  go_loopg [3] (n+1) (fun g i wr=>∃ j:Nat,1<=j/\j<=n+1/\n+1-j<=g/\i = .int .i64 j/\Hid (Ext w0 wr)/\Hid (∀ k,k < j->k < n->Hp.rd l k=Hp.rd l 0))
  case atStart=>exact ⟨1,by omega,by omega,by omega,rfl,hZ (Ext.refl _),hZ (fun k hk _=>by rw [show k=0 by omega])⟩
  case round=>
   obtain ⟨j,hj1,hj,hg,rfl,E,A⟩:=hrel;have c1':=E.out.q c1;have zr:=x4b z1 E.out.le
   by_cases hlt:j < n
   . obtain ⟨x,hx⟩:=A4a (l:=l) (j:=j) (by rw [HL.out];exact hlt);obtain ⟨y,hy⟩:=A4a (l:=l) (j:=0) (by rw [HL.out];omega);have EX:=E0H.out.trans E.out;obtain ⟨bb,o,hp,hbb,hc⟩:=(H.out.ext EX).cells (by rw [HL.out];omega);have gx:=hc j x hx;have gy:=hc 0 y hy;rw [G0c] at gy;have HX:=hZ hx;have HY:=hZ hy;have tk:decide ((j:Int) < (n:Int))=true:=dT;have n0:0 < n:=by omega
     clear hc hx hy;subst hp
     by_cases hxy:x=y
     . have t0:(x != y)=false:=by simpa using hxy
       have A2:Hid (∀ k,k < j+1->k < n->Hp.rd l k=Hp.rd l 0):=hZ (fun k hk hkn=>by
        by_cases e:k=j
        . subst e;rw [HX.out,HY.out,hxy]
        . exact A.out k (by omega) hkn)
       clear hxy
       go_wp2_with fail
       have pr35a:=Ext.r c1';have pr35b:=Ext.r gx;have pr35c:=Ext.r gy
       refine rg0 wr ?_
       refine' tkd 0 ?_;refine' tkd 2 ?_;refine' tkd 4 ?_;refine' tkd 6 ?_;refine' tkd 8 ?_;refine A0a (by kernel_rfl) ?_ _;intro x1 _ Ex1;clear pr35a pr35b pr35c;have E2:=hZ (E.out.trans Ex1)
       go_wp2_with fail
       go_roundg (n+1-(j+1))
       case measure=>omega
       case rel=>exact ⟨j+1,by omega,by omega,H0c _,by go_num,E2,A2⟩
     have t0:(x != y)=true:=by simpa using hxy
     have hbf:b=false:=by rw [<- HB.out];exact D3b HX.out HY.out hxy
     subst hbf;clear hxy
     go_wp2_with fail
     have pr36a:=Ext.r c1';have pr36b:=Ext.r gx;have pr36c:=Ext.r gy
     refine rg0 wr ?_
     refine' tkd 0 ?_;refine' tkd 2 ?_;refine' tkd 4 ?_;refine' tkd 6 ?_;refine' tkd 8 ?_;refine A0a (by kernel_rfl) ?_ _;intro x1 _ Ex1;clear pr36a pr36b pr36c
     go_wp2_with fail
     go_returns;exact ⟨rfl,EX.trans Ex1⟩
   have tk:decide ((j:Int) < (n:Int))=false:=dF;have hbt:b=true:=by
    rw [<- HB.out];exact M4b fun k hk=>A.out k (by have:=HL.out;omega) (by have:=HL.out;omega)
   subst hbt
   go_wp2_with fail
   go_returns;exact ⟨rfl,E0H.out.trans E.out⟩
end Go.Proofs.YtdokmmhjmclmnaaGreat
