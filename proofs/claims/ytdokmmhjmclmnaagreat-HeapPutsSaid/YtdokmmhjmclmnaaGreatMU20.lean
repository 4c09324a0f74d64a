/- Part 20 of a proof. -/
import Derived.Lib.SmallJoins
import Derived.Test.YtdokmmhjmclmnaaGreatMU19
set_option linter.unusedSimpArgs false
set_option linter.unusedVariables false
set_option linter.unusedSectionVars false
set_option linter.unnecessarySimpa false
set_option maxHeartbeats 4000000
set_option maxRecDepth 100000
namespace Go.Proofs.YtdokmmhjmclmnaaGreat
open Go.Proofs.Tryz
variable {W' w w' w0 wb:World} {B a b bx c ca cap ce cn f g i j k lb m n qc:Nat} {choice e t x:Int} {A W fs ks l o z:List Int} {D T Y:List Nat} {p p2 pa pe pn q:Option Addr} {d:Hd} {S S':Hp.Hs} {r:Rd} {L:List Hp.Tl} {M:List (Nat × Int)} {s:Hp.Sc}
open Go.RowKit Go.Maps
structure l5a (w:World) (p:Option Addr) (c:Nat) (l:List Hp.Act'):Prop where
 le:l.length<=c
 cap:c<=9223372036854775807
 cells:0 < l.length -> ∃ b o,p=some ⟨b,o,none⟩/\b < w.heap.size /\ ∀ (j:Nat) (x:Hp.Act'),l[j]? = some x -> ∃ q c f,X8b { x with list:=[] } f/\w.cell? ⟨b,o+j * 5,none⟩=some (.int .u8 x.kind)/\w.cell? ⟨b,o+j * 5+1,none⟩=some (.int .i64 x.a)/\w.cell? ⟨b,o+j * 5+2,none⟩=some (.slice q x.list.length c)/\w.cell? ⟨b,o+j * 5+3,none⟩=some (.int .u8 f)/\w.cell? ⟨b,o+j * 5+4,none⟩=some (.int .i64 x.n)/\SliceAt w q c x.list
theorem l5a.ext {l:List Hp.Act'} (h:l5a w p c l) (k:Ext w w'):l5a w' p c l:=by
 refine ⟨h.le,h.cap,fun h0=>?_⟩
 obtain ⟨b,o,rfl,hb,hc⟩:=h.cells h0
 refine ⟨b,o,rfl,x4b hb k.le,fun j x hx=>?_⟩
 obtain ⟨q,c',f,ok,a0,a1,a2,a3,a4,hs⟩:=hc j x hx
 exact ⟨q,c',f,ok,k.q a0,k.q a1,k.q a2,k.q a3,k.q a4,hs.ext k⟩
theorem l5a.at_ {l:List Hp.Act'} (h:l5a w p c l) (hl:∀ x ∈ l,x.list.length<=14):g1b w p c l:=by
 refine ⟨h.le,h.cap,fun h0=>?_⟩
 obtain ⟨b,o,rfl,hb,hc⟩:=h.cells h0
 refine ⟨b,o,rfl,hb,fun j x hx=>?_⟩
 obtain ⟨q,c',f,ok,hr⟩:=hc j x hx
 exact ⟨q,c',f,⟨ok.k0,ok.fault,ok.f2,ok.n1,ok.n2,ok.a1,ok.a2,by have:=hl x (u1b hx);omega⟩,hr⟩
def j3a (w:World) (pa:Option Addr) (acts:List Hp.Act'):Prop:=∀ (b o j:Nat) (x:Hp.Act') (q:Option Addr) (c:Nat),pa=some ⟨b,o,none⟩->acts[j]? = some x->w.cell? ⟨b,o+j * 5+2,none⟩=some (.slice q x.list.length c)->q=none->c=0
theorem j3a.ext {acts:List Hp.Act'} (h:j3a w pa acts) (ha:l5a w pa ca acts) (e:Ext w w'):j3a w' pa acts:=fun b o j x q c hp hx hc hq=>by
 obtain ⟨b',o',e',hb,_⟩:=ha.cells (by have:=(q5b.1 hx).1;omega)
 rw [hp] at e'
 cases e'
 exact h b o j x q c hp hx ((e.cell hb _).symm.trans hc) hq
structure SAt (w:World) (sp:Option Addr) (sc:Nat) (op:Option Addr) (oc:Nat) (pa:Option Addr) (ca:Nat) (z o:List Int) (acts:List Hp.Act'):Prop where
 n3:j3a w pa acts
 sizes:SliceAt w sp sc z
 order:SliceAt w op oc o
 acts:l5a w pa ca acts
 n1:sp=none->sc=0
 n2:op=none->oc=0
theorem SAt.ext {sp op:Option Addr} {sc oc:Nat} {acts:List Hp.Act'} (h:SAt w sp sc op oc pa ca z o acts) (e:Ext w w'):SAt w' sp sc op oc pa ca z o acts:=
 { h with sizes:=h.sizes.ext e,order:=h.order.ext e,acts:=h.acts.ext e,n3:=h.n3.ext h.acts e }
def Hp.q9a (z o:List Int) (n:Int) (acts:List Hp.Act'):Bool:=
 Hp.c6a z o && (decide (acts.length<=60) && (acts.all (fun x=>decide (x.list.length<=14)) && (decide (Hp.A2a z o ≠ 0) || (decide (n<=400) || decide (40000 < n)))))
theorem lThin {sp op:Option Addr} {sc oc:Nat} {n:Int} {acts:List Hp.Act'} (h:SAt w sp sc op oc pa ca z o acts) :
    Calls prog 14 #[.agg #[.slice sp z.length sc,.slice op o.length oc,.int .i64 n,.slice pa acts.length ca]] w (Rt w (.bool (Hp.q9a z o n acts))):=by
  have E0:Ext w (w.alloc (.cells #[.slice sp z.length sc,.slice op o.length oc,.int .i64 n,.slice pa acts.length ca] 25)):=Ext.alloc (Ext.refl _) _;have SL:=hZ (dSlim (h.sizes.ext E0) (h.order.ext E0));have CF:=hZ (fun (W:World) (E:Ext w W)=>R6a (h.sizes.ext E) (h.order.ext E));have HA:=hZ h.acts;have le:=h.acts.le;have cap:=h.acts.cap;clear h;obtain ⟨b,hb⟩:∃ b,Hp.q9a z o n acts=b:=⟨_,rfl⟩
  rw [hb];have HB:=hZ hb;clear hb
  cases hs:Hp.c6a z o with
  | false=>
   have:b=false:=by rw [<- HB.out];simp [Hp.q9a,hs]
   subst this;rw [hs] at SL;clear hs CF E0;go_enter func14,ntmps14
   go_wp2_with (go_at_call 56;refine m4_ (SL.out) fun w1 hb1 hc1 hf1 hs1=>?_)
   go_returns;exact ⟨rfl,exx⟩
  | true=>
   rw [hs] at SL;have HS:=hZ hs;clear hs
   by_cases h60:acts.length<=60
   . have t60:decide ((acts.length:Int) > 60)=false:=dF;have H60:=hZ h60;obtain ⟨m,hm⟩:∃ m,acts.length=m:=⟨_,rfl⟩
     have HM:=hZ hm;rw [hm] at SL E0 le t60 h60 ⊢;clear hm;go_enter func14,ntmps14
     go_wp2_with (go_at_call 56;refine m4_ (SL.out) fun w1 hb1 hc1 hf1 hs1=>?_)
     have c0:w1.cell? ⟨w.heap.size,0,none⟩=some (.slice sp z.length sc):=by go_simp
     have c1:w1.cell? ⟨w.heap.size,1,none⟩=some (.slice op o.length oc):=by go_simp
     have c2:w1.cell? ⟨w.heap.size,2,none⟩=some (.int .i64 n):=by go_simp
     have c3:w1.cell? ⟨w.heap.size,3,none⟩=some (.slice pa m ca):=by go_simp
     have z1:w.heap.size < w1.heap.size:=cell_lt c0;have E1:=hZ (E0.trans hb1);generalize hG:w.heap.size=gb at c0 c1 c2 c3 z1 ⊢;clear hc1 hf1 hs1 hb1 SL E0
     go_loopg [3] m (fun g i wr=>∃ j:Nat,j<=m/\m-j<=g/\i = .int .i64 j/\Hid (∀ k x,k < j->acts[k]? = some x->x.list.length<=14)/\Hid (Ext w1 wr))
     case atStart=>exact ⟨0,G9c _,by omega,rfl,hZ (fun k x hk=>by omega),hZ (Ext.refl _)⟩
     case round=>
      obtain ⟨j,hj,hg,rfl,A,E⟩:=hrel;have c3':=E.out.q c3;have zr:=x4b z1 E.out.le
      by_cases hlt:j < m
      . obtain ⟨x,hx⟩:∃ x,acts[j]? = some x:=⟨acts[j]'(by rw [HM.out];exact hlt),r1b _⟩
        obtain ⟨bb,oo,rfl,hbb,hc⟩:=(HA.out.ext (E1.out.trans E.out)).cells (by rw [HM.out];omega);obtain ⟨q',c',f,ok,a0,a1,a2,a3,a4,hs⟩:=hc j x hx;have tk:decide ((j:Int) < (m:Int))=true:=dT;have HX:=hZ hx;have xc:=hs.le;clear hc hx ok hs a0 a1 a3 a4
        by_cases h14:x.list.length<=14
        . have t14:decide ((x.list.length:Int) > 14)=false:=dF;have A3:=hZ (show ∀ k y,k < j+1->acts[k]? = some y->y.list.length<=14 from fun k y hk hy=>by
           by_cases e:k=j
           . subst e;rw [HX.out] at hy
             cases hy
             exact h14
           . exact A.out k y (by omega) hy)
          go_wp2_with fail
          go_roundg (m-(j+1))
          case measure=>omega
          case rel=>exact ⟨j+1,by omega,H0c _,by go_num,A3,E⟩
        have t14:decide ((x.list.length:Int) > 14)=true:=dT;have hbf:b=false:=by
         rw [<- HB.out];have:acts.all (fun x=>decide (x.list.length<=14))=false:=by
          apply r0b;intro hc;have h2:=A7c.1 (by simpa using hc:acts.all (fun x=>decide (x.list.length<=14))=true) x (u1b HX.out);exact h14 (by simpa using h2)
         simp [Hp.q9a,this]
        subst hbf
        go_wp2_with fail
        go_returns;exact ⟨rfl,E1.out.trans E.out⟩
      have:j=m:=by omega
      subst this;have tk:decide ((j:Int) < (j:Int))=false:=dF;have hall:acts.all (fun x=>decide (x.list.length<=14))=true:=A7c.2 fun x hx=>by
       obtain ⟨k,hk,rfl⟩:=u9b hx;have:=A.out k _ (by have:=HM.out;omega) (r1b hk)
       simpa using this
      have hbe:(decide (Hp.A2a z o ≠ 0) || (decide (n<=400) || decide (40000 < n)))=b:=by
       rw [<- HB.out];unfold Hp.q9a;rw [HS.out,hall];have:decide (acts.length<=60)=true:=E5c H60.out;rw [this];simp
      have c0':=E.out.q c0;have c1':=E.out.q c1;have c2':=E.out.q c2;have C:=hZ (CF.out wr (E1.out.trans E.out));clear A hall CF c0 c1 c2
      by_cases h0:Hp.A2a z o=0
      . rw [h0] at C hbe;have hbe:(decide (n<=400) || decide (40000 < n))=b:=by rw [<- hbe];simp
        clear h0
        by_cases h4:n<=400
        . have:b=true:=by rw [<- hbe];simp [h4]
          subst this;have t4:decide (n<=400)=true:=E5c h4;clear hbe
          go_wp2_with ((go_at_call 57;refine m4_ (C.out) fun w2 hb2 hc2 hf2 hs2=>?_);have c2'':=hb2.q c2')
          go_returns;exact ⟨rfl,(E1.out.trans E.out).trans hb2⟩
        have hbe:decide (40000 < n)=b:=by rw [<- hbe];simp [h4]
        have t4:decide (n<=400)=false:=D7c h4;subst hbe;clear h4
        go_wp2_with ((go_at_call 57;refine m4_ (C.out) fun w2 hb2 hc2 hf2 hs2=>?_);have c2'':=hb2.q c2')
        go_returns;exact ⟨rfl,(E1.out.trans E.out).trans hb2⟩
      have:b=true:=by rw [<- hbe];simp [h0]
      subst this;have t0:(Hp.A2a z o != 0)=true:=by simpa using h0
      clear hbe h0;generalize Hp.A2a z o=fe at C t0
      go_wp2_with ((go_at_call 57;refine m4_ (C.out) fun w2 hb2 hc2 hf2 hs2=>?_);have c2'':=hb2.q c2')
      go_returns;exact ⟨rfl,(E1.out.trans E.out).trans hb2⟩
   have t60:decide ((acts.length:Int) > 60)=true:=dT;have:b=false:=by rw [<- HB.out];simp [Hp.q9a,h60]
   subst this;clear CF E0;go_enter func14,ntmps14
   go_wp2_with (go_at_call 56;refine m4_ (SL.out) fun w1 hb1 hc1 hf1 hs1=>?_)
   go_returns;exact ⟨rfl,exx⟩
def Hp.I9b (z o:List Int) (n:Int) (acts:List Hp.Act'):Bool:=Hp.q9a z o n acts && decide (Hp.G1a z o n=0)
open Go.RowKit
section
variable {P:Program} {ops:Array Oper} {Q:Exit->Act->World->Prop} {md:Region.Mode} {S:World->Prop}
theorem G8a {oi:Oper} {fuel:Nat} {listed:Array Bool} {a:Act} (i:Nat) (V:Value->World->Prop) (hi:ops[i]? = some oi)
    (hr:Region.ready md ops listed=[i]) (hw:Region.wanted oi (yielded ops a.tmps)=true)
    (hrun:∀ w',Ext w w'->S w'->(∃ f args,(execOp a.eval oi).run P w' = .ok (.enter f args) w'/\Calls P f args w' fun e w''=>∃ v,e = .returned v/\V v w'') \/ ∃ v w'',(execOp a.eval oi).run P w' = .ok (.value v) w''/\V v w'')
    (hVS:∀ v w'',V v w'' -> ∀ W,Ext w'' W->S W)
    (h:∀ v w'',V v w''->B7a P md ops Q (fun W=>Ext w'' W) Ext fuel (listed.setIfInBounds i true) (a.put oi.dst v) w''):B7a P md ops Q S Ext (fuel+1) listed a w:=
  v7a V Ext.refl (fun _ _ _=>Ext.trans) hi (by rw [hr];simp) (by rw [hr];simp) hw hrun hVS h
end
open Go
section
variable {P:Program} {ops:Array Oper} {Q:Exit->Act->World->Prop} {md:Region.Mode} {S:World->Prop}
inductive P2a (P:Program) (ops:Array Oper) (Q:Exit->Act->World->Prop) (S:World->Prop):List Oper->List Bool->Act->World->Prop
 | done {a:Act} {w:World} (h:Q .normal a w):P2a P ops Q S [] [] a w
 | take {o:Oper} {v:Value} {l:List Oper} {r:List Bool} {a:Act} {w:World} (hy:F1a P ops S Eq o v a) (h:P2a P ops Q S l r (a.put o.dst v) w):P2a P ops Q S (o :: l) (false :: r) a w
 | put {o:Oper} {l:List Oper} {r:List Bool} {a:Act} {w:World} (w':World) (hw:Region.wanted o (yielded ops a.tmps)=true) (hrun:(execOp a.eval o).run P w = .ok .skip w') (hS:S w') (h:P2a P ops Q S l r (a.put o.dst undef) w'):P2a P ops Q S (o :: l) (true :: r) a w
theorem P2a.anyR (hs:Region.noSelect ops=true) (hQ:∀ c a d v w,Q (.panic c) (Act.put a d v) w->Q (.panic c) a w) {l:List Oper} {pl:List Bool} {a:Act} (h:P2a P ops Q S l pl a w) :
    ∀ {k:Nat} {listed:Array Bool},(∀ j:Nat,l[j]? = ops[k+j]?)->Upto ops k listed->t7a md ops l pl k=true->B7a P md ops Q S Eq l.length listed a w:=by
  induction h with
  | done h=>
   intro k listed hl hu _;refine A0a ?_ (fun w' e _=>e ▸ h) _;refine p7b.2 fun j hj=>?_
   obtain ⟨h1,o,h2,_⟩:=mem_ready.1 hj;have hjs:=(q4b.1 h2).1;rw [hu.at_ j _ hjs] at h1;have h1:¬ j < k:=by simpa using h1
   have:=hl (j-k);rw [show k+(j-k)=j by omega,h2] at this;simp at this
  | @take o v l r a w hy _ ih=>
   intro k listed hl hu hb;simp only [t7a,B8c] at hb;have hi:ops[k]? = some o:=by simpa using (hl 0).symm
   have hl':∀ j:Nat,l[j]? = ops[k+1+j]? := fun j=>by have:=hl (j+1);rw [show k+(j+1)=k+1+j by omega] at this;simpa using this
   refine U3a (fun _=>rfl) (fun _ _ _ h k=>h.trans k) hi (Region.noSelect_spec hs) (fun c a w h=>hQ c a _ _ w h) _ listed a w (fun j oj hoj hne hun hno=>?_) (O6a hi hu hb.1) hy (ih hl' hu.set hb.2);have hjs:=(q4b.1 hoj).1;rw [hu.at_ j _ hjs] at hun;have hun:¬ j < k:=by simpa using hun
   have hm:oj ∈ l:=by
    refine u1b (i:=j-(k+1)) ?_;rw [hl',show k+1+(j-(k+1))=j by omega];exact hoj
   have h1:=hb.1;simp only [i7a,B8c,x6b,H1c] at h1;have h2:=A7c.1 h1.2 oj hm;simp only [D4c] at h2
   rcases h2 with h2 | h2
   . obtain ⟨e,he,h3⟩:=q2a h2;simp only [B8c,beq_iff_eq] at h3;exact absurd h3.2 (hno e he h3.1)
   exact h2
  | @put o l r a w w1 hw hrun hS _ ih=>
   intro k listed hl hu hb;simp only [t7a,B8c] at hb;have hi:ops[k]? = some o:=by simpa using (hl 0).symm
   have hl':∀ j:Nat,l[j]? = ops[k+1+j]? := fun j=>by have:=hl (j+1);rw [show k+(j+1)=k+1+j by omega] at this;simpa using this
   have hr0:=O6a hi hu hb.1;have hr:∀ j ∈ Region.ready md ops listed,j=k:=fun j hj=>by
    obtain ⟨hun,oj,hoj,hall⟩:=mem_ready.1 hj;have hjs:=(q4b.1 hoj).1;rw [hu.at_ j _ hjs] at hun;have hun:¬ j < k:=by simpa using hun
    apply r0b;intro hne;have hm:oj ∈ l:=by
     refine u1b (i:=j-(k+1)) ?_;rw [hl',show k+1+(j-(k+1))=j by omega];exact hoj
    have h1:=hb.1;simp only [i7a,B8c,H2c] at h1;obtain ⟨e,he,h3⟩:=q2a (A7c.1 h1.2 oj hm);simp only [B8c,A1c] at h3;have h4:=hall e he h3.1
    rcases G3c e.on ops.size with h5 | h5
    . rw [hu.at_ e.on _ h5] at h4;have h4:e.on < k:=by simpa using h4
      omega
    have:listed.size<=e.on:=by rw [hu.size];exact h5
    simp [Array.getD,show ¬ e.on < listed.size by omega] at h4
   intro w' r s;subst r;refine ⟨fun e=>(by rw [e] at hr0;cases hr0),fun j hj=>?_⟩
   obtain rfl:j=k:=hr j hj;unfold Go.wpOp;simp only [hi];rw [H5c hw];refine .inl ?_;unfold Oper.wp;rw [hrun];exact ⟨hS,ih hl' hu.set hb.2⟩
theorem R9a {S:World->Prop} {id:Nat} {l:List Oper} {a:Act} (pl:List Bool) (hm:P.follows .mixedOrders=true) (hs:Region.noSelect l.toArray=true)
    (hQ:∀ c a d v w,Q (.panic c) (Act.put a d v) w->Q (.panic c) a w) (hb:t7a .any l.toArray l pl 0=true) (hS:S w.drew)
    (h:∀ ops,ops=l.toArray->P2a P ops Q S l pl a w.drew):(Code.region id l.toArray true).wp P Q a w:=by
  refine D4a hm (fun _=>rfl) hS ?_;exact (h _ rfl).anyR hs hQ (k:=0) (fun j=>by simp) ⟨by simp,fun j d hj=>by
   have:j < l.length:=by simpa using hj
   simp [Array.getD,this]⟩ hb
end
section
variable {P:Program} {ops L:Array Oper} {Q:Exit->Act->World->Prop} {S:World->Prop} {o:Oper} {v:Value} {l:List Oper} {r:List Bool} {a:Act} {w:World}
theorem tkT (hops:RowKit.Hid (ops=L)) (hy:∀ w,S w->(execOp a.eval o).run P w = .ok (.value v) w) (h:P2a P ops Q S l r (a.put o.dst v) w) (hw:Region.wanted o (yielded L a.tmps)=true:=by rfl):P2a P ops Q S (o :: l) (false :: r) a w:=P2a.take (Or.inl (Or.inl ⟨by rw [hops.out];exact hw,hy⟩)) h
theorem tkS {q:Prop} (hops:RowKit.Hid (ops=L)) (h:q) (hy:∀ w,S w->(execOp a.eval o).run P w = .ok (.value v) w:=by intro w q;go_simp;try with_reducible rfl) (e:P2a P ops Q S l r (a.put o.dst v) w=q:=by first | (simp only [u2b,s3b,s4b,Act.put,q2b,w6b,w7b];exact rfl) | exact rfl) (hw:Region.wanted o (yielded L a.tmps)=true:=by rfl):P2a P ops Q S (o :: l) (false :: r) a w:=P2a.take (Or.inl (Or.inl ⟨by rw [hops.out];exact hw,hy⟩)) (e.mpr h)
end
open Go.ChangeShapes Go.WideShapes Go.ChangeAt Go.RowKit Go.Joins
theorem own:ownKnob prog.godebug=none:=by kernel_rfl
theorem kids:Kids prog (· < prog.types.size):=kids_rows (by kernel_rfl) (by kernel_rfl)
theorem full:∀ t e,t < prog.types.size->prog.underlying t=some (.slice e)->0 < prog.cellsOf e:=slices_full_of _ (by kernel_rfl)
theorem k9b {W:World} (he:Ext W W') {p:MemPlace} (hp:p.block < W.heap.size):W.sameAt W' p:=by
 cases p with
 | cell b off=>exact he.cell hp off
 | map b=>exact he.block b hp
theorem K0b {H:Type} {enc:TypeId × Value->H} {W:World} (he:Ext W W') {sp:Nat->Bool}:∀ {ts:List TypeId} {vs:List Value} {ds:List (DataW H)} {ps:List MemPlace},(∀ t ∈ ts,t < prog.types.size)->DataW.TrodAll enc prog W 0 (fun _=>true) true ts vs ds ps ->
    (∀ p ∈ ps,p.block < W.heap.size)->(∀ p ∈ ps,sp p.block=true)->DataW.TrodAll enc prog W' 0 sp true ts vs ds ps:=by
  intro ts vs ds ps hT h hlt hs;refine DataW.TrodAll.respare kids full hT ?_ hs;clear hs hT
  induction ts generalizing vs ds ps with
  | nil=>match vs,ds,h with
   | [],[],h=>exact h
  | cons t ts ih=>match vs,ds,h with
   | v :: vs,d :: ds,⟨p,q,⟨n,h1⟩,h2,e⟩=>
    subst e;exact ⟨p,q,⟨n,DataW.trod_carry n _ _ _ h1 (fun x hx=>k9b he (hlt x (List.mem_append_left _ hx)))⟩,ih h2 (fun x hx=>hlt x (List.mem_append_right _ hx)),rfl⟩
theorem Z0b {H:Type} {enc:TypeId × Value->H} {P:Program} {f:Func} {s:ChangeSpec} {W:World} {args:Array Value} {v:Value} {ds gs:List (DataW H)} {before pa pv:List MemPlace}
    (hW:DataW.Whole enc P f.params.toList s.vars false W args.toList ds gs before)
    (hres:∀ (b:Nat) (sp:Nat->Bool) (hd:Bool),DataW.TrodAll enc P W' b sp hd f.resultTypes.toList (v.resultList f.resultTypes.size) (s.fn H (ds ++ gs)).results [])
    (hargs:∀ sp:Nat->Bool,(∀ p ∈ before,sp p.block=true)->DataW.TrodAll enc P W' 0 sp true f.params.toList args.toList (s.fn H (ds ++ gs)).args pa)
    (hvars:∀ sp:Nat->Bool,(∀ p ∈ before,sp p.block=true)->DataW.TrodVars enc P W' sp s.vars (s.fn H (ds ++ gs)).vars pv)
    (hps:before=pa ++ pv) (hb:Ext W W'):s.post enc P f false true false false W args v W':=by
  have hold:∀ p ∈ before,(fun b=>decide (b < W.heap.size)) p.block=true:=fun p hp=>by simpa using hW.lt p hp
  refine ⟨ds,gs,before,[],pa,pv,hW,hres _ _ _,hargs _ hold,hvars _ hold,World.keptBut_mono (fun p hp=>⟨hp, ?_⟩) (Below.frame hb (· ∈ before)),fun h=>by cases h⟩;rw [hps,C4c] at hp;exact Or.inr hp
theorem P9a:prog.cellsOf 3=1:=by kernel_rfl
theorem i0a:prog.cellsOf 5=1:=by kernel_rfl
theorem Y7a:prog.cellsOf 22=1:=by kernel_rfl
theorem v8a:prog.cellsOf 43=2:=by kernel_rfl
theorem W0b:prog.cellsOf 85=5:=by kernel_rfl
section
variable {H:Type} {enc:TypeId × Value->H} {w:World} {base:Nat} {held:Bool}
theorem open_ints {fuel:Nat} {v:Value} {y:DataW H × List MemPlace} (h:DataW.trod enc prog w base (fun _=>true) held fuel 22 [v]=some y):∃ (q:Option Addr) (c:Nat) (l:List Int),v = .slice q l.length c/\SliceAt w q c l/\(q=none->c=0):=by
 rcases Go.Deep.open_slice1 underlying22 P9a h with ⟨hcs,-⟩ | ⟨a,len,cap,m,n,V,D,Pl,hcs,hb,hl,hm,hmm,hx,hi⟩
 . exact ⟨none,0,[],(F6c hcs).1,⟨by simp,by omega,by simp,fun h=>by simp at h⟩,fun _=>rfl⟩
 have hcs:=(F6c hcs).1
 simp only [H2c] at hmm
 subst hmm
 have num:∀ i,i < m -> ∃ z:Int,V i = .int .i64 z /\ -9223372036854775808<=z/\z<=9223372036854775807:=fun i h=>by
  obtain ⟨-,h2⟩:=hi i h;obtain ⟨f,e0,_,wf0⟩:=DataW.trod_int underlying3 h2;simp at e0;exact ⟨f,e0,bounds_i64 wf0⟩
 obtain ⟨z,hz⟩:∃ z:Nat->Int,∀ i,i < m->V i = .int .i64 (z i) /\ -9223372036854775808<=z i/\z i<=9223372036854775807:=
  ⟨fun i=>if h:i < m then (num i h).choose else 0,fun i h=>by simp only [H3c h];exact (num i h).choose_spec⟩
 refine ⟨some a,m,(List.range len).map z,by simpa using hcs,⟨by simpa using hl,by unfold maxLen at hm;omega,fun x hx=>?_,fun h0=>?_⟩,fun h=>by cases h⟩
 . obtain ⟨i,hi',rfl⟩:=F7c.1 hx;have:=D8c.1 hi';exact (hz i (by omega)).2
 simp only [C6c,y5b] at h0
 obtain ⟨b,off,spot⟩:=a
 have hspot:spot=none:=by simpa [Addr.add] using B9c (hi 0 (by omega)).1
 subst hspot
 have key:∀ j,j < len->w.cell? ⟨b,off+j,none⟩=some (.int .i64 (z j)):=fun j hj=>by
  have:=(hi j (by omega)).1;rw [(hz j (by omega)).1,G8c] at this;exact this
 refine ⟨b,off,rfl,cell_lt (key 0 h0),fun j x hx=>?_⟩
 have hj:=G0a hx
 simp only [C6c,y5b] at hj
 have:z j=x:=by simpa [Hp.rd,hj] using hx
 rw [<- this]
 exact key j hj
theorem T8b {fuel:Nat} {v:Value} {y:DataW H × List MemPlace} (h:DataW.trod enc prog w base (fun _=>true) held fuel 23 [v]=some y):∃ (pa:Option Addr) (ca:Nat) (acts:List Hp.Act'),v = .slice pa acts.length ca/\l5a w pa ca acts/\j3a w pa acts:=by
 rcases Go.Deep.open_slice underlying23 h with ⟨hcs,-⟩ | ⟨a,len,cap,m,n,D,Pl,hcs,hb,hl,hm,hmm,hx,hi⟩
 . exact ⟨none,0,[],(F6c hcs).1,⟨by simp,by omega,fun h=>by simp at h⟩,fun b o j x q c hp=>by cases hp⟩
 have hcs:=(F6c hcs).1
 simp only [H2c] at hmm
 subst hmm
 rw [W0b] at hi
 have num:∀ i,i < m -> ∃ (x:Hp.Act'),∃ (q:Option Addr) (c f:Nat),X8b { x with list:=[] } f/\w.cell? (a.add (i * 5))=some (.int .u8 x.kind)/\w.cell? (a.add (i * 5+1))=some (.int .i64 x.a)/\w.cell? (a.add (i * 5+2))=some (.slice q x.list.length c)/\w.cell? (a.add (i * 5+3))=some (.int .u8 f)/\w.cell? (a.add (i * 5+4))=some (.int .i64 x.n)/\SliceAt w q c x.list/\(q=none->c=0):=fun i h=>by
  obtain ⟨cs,hc,ht⟩:=hi i h;obtain ⟨_,hlen,hcell⟩:=World.cells?_some hc
  match cs,hlen with
  | [c0,c1,c2,c3,c4],_=>
   obtain ⟨xs,k,-,-,-,hxl,hf⟩:=DataW.trod_struct underlying85 ht;have f0:DataW.trod enc prog w base (fun _=>true) held k 5 (([c0,c1,c2,c3,c4].drop 0).take (prog.cellsOf 5))=xs[0]? := hf 0 _ rfl;rw [i0a] at f0;have f1:DataW.trod enc prog w base (fun _=>true) held k 3 (([c0,c1,c2,c3,c4].drop 1).take (prog.cellsOf 3))=xs[1]? := hf 1 _ rfl;rw [P9a] at f1;have f2:DataW.trod enc prog w base (fun _=>true) held k 22 (([c0,c1,c2,c3,c4].drop 2).take (prog.cellsOf 22))=xs[2]? := hf 2 _ rfl;rw [Y7a] at f2;have f3:DataW.trod enc prog w base (fun _=>true) held k 43 (([c0,c1,c2,c3,c4].drop 3).take (prog.cellsOf 43))=xs[3]? := hf 3 _ rfl;rw [v8a] at f3;simp only [v0b,D9c,v1b,E0c] at f0 f1 f2 f3;clear hf;have hxl4:xs.length=4:=hxl;have fin:∀ j,j < 4 -> ∃ y,xs[j]? = some y:=fun j hj=>⟨_,r1b (by omega)⟩
   obtain ⟨y0,g0⟩:=fin 0 (by omega);obtain ⟨y1,g1⟩:=fin 1 (by omega);obtain ⟨y2,g2⟩:=fin 2 (by omega);obtain ⟨y3,g3⟩:=fin 3 (by omega);rw [g0] at f0;rw [g1] at f1;rw [g2] at f2;rw [g3] at f3;obtain ⟨k0,e0,_,w0⟩:=DataW.trod_int underlying5 f0;obtain ⟨k1,e1,_,w1⟩:=DataW.trod_int underlying3 f1;obtain ⟨q,c,l,e2,hs,hn⟩:=open_ints f2;obtain ⟨z0,z1,n',-,_,h0,h1⟩:=trod_struct2 underlying43 f3;obtain ⟨k3,e3,_,w3⟩:=DataW.trod_int underlying5 h0;obtain ⟨k4,e4,_,w4⟩:=DataW.trod_int underlying3 h1;rw [i0a] at e3;rw [P9a] at e4;simp at e0 e1 e3 e4;subst e0 e1 e2 e3 e4;obtain ⟨b0,b1⟩:=bounds_u8 w0;obtain ⟨b2,b3⟩:=bounds_i64 w1;obtain ⟨b4,b5⟩:=bounds_u8 w3;obtain ⟨b6,b7⟩:=bounds_i64 w4;have cl:∀ (i2:Nat) (u:Value),[Value.int .u8 k0,.int .i64 k1,.slice q l.length c,.int .u8 k3,.int .i64 k4][i2]? = some u->w.cell? ((a.add (i * 5)).add i2)=some u:=fun i2 u hu=>by
    rw [hcell i2 (by have:=(q5b.1 hu).1;simpa using this)]
    exact hu
   refine ⟨⟨k0,k1,l,k3,k4⟩,q,c,k3.toNat,⟨b0,by show k3=_;omega,by omega,b6,b7,b2,b3,by simp⟩, ?_, ?_, ?_, ?_, ?_,hs,hn⟩
   . have:=cl 0 _ rfl
     rwa [Go.Deep.add_add] at this
   . have:=cl 1 _ rfl
     rwa [Go.Deep.add_add] at this
   . have:=cl 2 _ rfl
     rwa [Go.Deep.add_add] at this
   . have:=cl 3 _ rfl;rw [Go.Deep.add_add] at this;rw [this,show ((k3.toNat:Nat):Int)=k3 by omega]
   have:=cl 4 _ rfl
   rwa [Go.Deep.add_add] at this
 obtain ⟨z,hz⟩:∃ z:Nat->Hp.Act',∀ i,i < m -> ∃ (q:Option Addr) (c f:Nat),X8b { z i with list:=[] } f/\w.cell? (a.add (i * 5))=some (.int .u8 (z i).kind)/\w.cell? (a.add (i * 5+1))=some (.int .i64 (z i).a)/\w.cell? (a.add (i * 5+2))=some (.slice q (z i).list.length c)/\w.cell? (a.add (i * 5+3))=some (.int .u8 f)/\w.cell? (a.add (i * 5+4))=some (.int .i64 (z i).n)/\SliceAt w q c (z i).list/\(q=none->c=0):=
  ⟨fun i=>if h:i < m then (num i h).choose else ⟨0,0,[],0,0⟩,fun i h=>by simp only [H3c h];exact (num i h).choose_spec⟩
 have zl:∀ (j:Nat) (x:Hp.Act'),((List.range len).map z)[j]? = some x->j < len/\x=z j:=fun j x hx=>by
  have hj:j < len:=by simpa using (q5b.1 hx).1
  exact ⟨hj,by simpa [hj,eq_comm] using hx⟩
 refine ⟨some a,m,(List.range len).map z,by simpa using hcs,⟨by simpa using hl,by unfold maxLen at hm;omega,fun h0=>?_⟩,fun b o j x q c hp hx hc hq=>?_⟩
 . simp only [C6c,y5b] at h0;obtain ⟨b,off,spot⟩:=a;have hspot:spot=none:=by
    obtain ⟨_,_,_,_,h1,_⟩:=hz 0 (by omega)
    simpa [Addr.add] using B9c h1
   subst hspot;refine ⟨b,off,rfl, ?_,fun j x hx=>?_⟩
   . obtain ⟨_,_,_,_,h1,_⟩:=hz 0 (by omega);rw [G8c] at h1;exact cell_lt h1
   obtain ⟨hj,rfl⟩:=zl j x hx;obtain ⟨q,c,f,h1,h2,h3,h4,h5,h6,h7,_⟩:=hz j (by omega);rw [G8c] at h2 h3 h4 h5 h6;exact ⟨q,c,f,h1,h2,h3,h4,h5,h6,h7⟩
 obtain ⟨hj,rfl⟩:=zl j x hx
 cases hp
 obtain ⟨q',c',f,h1,h2,h3,h4,h5,h6,h7,h8⟩:=hz j (by omega)
 have:w.cell? ⟨b,o+j * 5+2,none⟩=some (.slice q' (z j).list.length c'):=by
  rw [G8c] at h4;exact h4
 rw [this] at hc
 cases hc
 exact h8 hq
theorem open_S {r:Reach} {b0:Nat} {v:Value} {d:DataW H} {p:List MemPlace} (hv:Value.okWide prog w r b0 25 v) (h:DataW.Trod enc prog w base (fun _=>true) held 25 v d p) :
    ∃ (sp op pa:Option Addr) (sc oc ca:Nat) (z o:List Int) (n:Int) (acts:List Hp.Act'),v = .agg #[.slice sp z.length sc,.slice op o.length oc,.int .i64 n,.slice pa acts.length ca]/\SAt w sp sc op oc pa ca z o acts /\ -9223372036854775808<=n/\n<=9223372036854775807:=by
  obtain ⟨c0,c1,c2,c3,y0,y1,y2,y3,m,rfl,-,-,h0,h1,h2,h3⟩:=open_agg4 underlying25 (by kernel_rfl) (by kernel_rfl) hv h;obtain ⟨sp,sc,z,rfl,s0,n0⟩:=open_ints h0;obtain ⟨op,oc,o,rfl,s1,n1⟩:=open_ints h1;obtain ⟨n,e2,_,wf⟩:=DataW.trod_int underlying3 h2;obtain ⟨pa,ca,acts,rfl,s3,n3⟩:=T8b h3;simp at e2;subst e2;exact ⟨sp,op,pa,sc,oc,ca,z,o,n,acts,rfl,⟨n3,s0,s1,s3,n0,n1⟩,bounds_i64 wf⟩
end
end Go.Proofs.YtdokmmhjmclmnaaGreat
