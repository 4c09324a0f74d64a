/- Part 2 of a proof. -/
import Derived.StillTailTactics
import Derived.WideKeyEntry
import Derived.Test.YtdokmmhjmclmnaaGreatMU01
set_option linter.unusedSimpArgs false
set_option linter.unusedVariables false
set_option linter.unusedSectionVars false
set_option linter.unnecessarySimpa false
set_option maxHeartbeats 8000000
set_option maxRecDepth 100000
namespace Go.Proofs.YtdokmmhjmclmnaaGreat
open Go.Proofs.Tryz
variable {W' w w' w0 wb:World} {B a b bx c ca cap ce cn f g i j k lb m n qc:Nat} {choice e t x:Int} {A W fs ks l o z:List Int} {D T Y:List Nat} {p p2 pa pe pn q:Option Addr} {d:Hd} {S S':Hp.Hs} {M:List (Nat × Int)}
open Go
section
variable {P:Program} {ops:Array Oper} {Q:Exit->Act->World->Prop} {md:Region.Mode} {S:World->Prop} {R:World->World->Prop}
def I5b (md:Region.Mode) (ops:Array Oper) (n:Nat) (listed:Array Bool):Bool:=
 (List.range n).all fun i=>listed.getD i false || (List.range (n+1)).any fun j=>decide (i < j) && Region.waitsFor md ops j i
def s1a (md:Region.Mode) (ops:Array Oper) (n:Nat) (listed:Array Bool):Bool:=
 decide (listed.size=ops.size) &&
 ((List.range ops.size).all fun j=>!(listed.getD j false) || (match ops[j]? with | some o=>o.after.all (fun e=>!(Region.binds md e) || listed.getD e.on false) | none=>true)) &&
 ((List.range ops.size).all fun t=>decide (t < n) || !(listed.getD t true))
theorem t0a {listed:Array Bool} (h:s1a md ops n listed=true):HeadInv md ops n listed:=by
 simp only [s1a,B8c,A1c] at h
 obtain ⟨⟨h1,h2⟩,h3⟩:=h
 refine ⟨h1,fun j oj hj hl e he hb=>?_,fun t ht htl=>?_⟩
 . have hjl:j < ops.size:=(q4b.1 hj).1;have:=A7c.1 h2 j (D8c.2 hjl);rw [hl,hj] at this;simp only [F2c,F3c] at this;have:=p6b.1 this e he;rw [hb] at this
   simpa using this
 have:=A7c.1 h3 t (D8c.2 htl)
 simp only [D4c,A1c] at this
 rcases this with h | h
 . omega
 simpa using h
def Sunk (md:Region.Mode) (ops:Array Oper) (n:Nat) (listed:Array Bool):Prop:=
 ∀ i,i < n->listed.getD i true=false -> ∃ j,j<=n/\i < j/\Region.waitsFor md ops j i=true
theorem p1a {listed:Array Bool} (h:I5b md ops n listed=true):Sunk md ops n listed:=by
 intro i hi hun
 have:=A7c.1 h i (D8c.2 hi)
 rw [getD_both hun] at this
 simp only [F3c] at this
 obtain ⟨j,hj,h2⟩:=B2c.1 this
 simp only [B8c,A1c] at h2
 exact ⟨j,by have:=D8c.1 hj;omega,h2.1,h2.2⟩
theorem Sunk.set {listed:Array Bool} (h:Sunk md ops n listed):Sunk md ops n (listed.setIfInBounds i true):=by
 intro k hk hun
 by_cases e:i=k
 . subst e
   rcases G3c i listed.size with h' | h'
   . simp [h'] at hun
   refine h i hk ?_;simp [s7b h'] at hun
 rw [getD_set_ne true e] at hun
 exact h k hk hun
theorem z0a {listed:Array Bool} (hs:Sunk md ops n listed) (hc:Region.chainB md ops n=true) (inv:HeadInv md ops n listed) :
    ∀ (d i:Nat),n-i=d->i < n->listed.getD i true=false -> ∀ t,n<=t->t ∉ Region.ready md ops listed:=by
  intro d
  induction d using Nat.strongRecOn with
  | _ d ih=>
   intro i hd hi hun t ht hr;obtain ⟨_,ot,hot,hall⟩:=mem_ready.1 hr;have htlt:t < ops.size:=(q4b.1 hot).1
   by_cases htn:t=n
   . subst htn;obtain ⟨j,hjle,hij,hw⟩:=hs i hi hun;obtain ⟨oj,hoj,e,he,hb,hon⟩:=Region.waitsFor_spec hw
     by_cases hjt:j=t
     . subst hjt;have:oj=ot:=D3c (hoj.symm.trans hot);subst this;have h2:=hall e he hb;rw [hon,getD_both hun] at h2
       cases h2
     cases hl:listed.getD j false with
     | true=>
      have h2:=inv.closed j oj hoj hl e he hb;rw [hon,getD_both hun] at h2
      cases h2
     | false=>
      have hjs:j < listed.size:=by rw [inv.size];omega
      exact ih (t-j) (by omega) j rfl (by omega) (getD_in hjs hl) t (H0c _) hr
   have h1:=A7c.1 hc t (D8c.2 htlt);simp only [D4c,A1c] at h1
   rcases h1 with h1 | h1
   . omega
   obtain ⟨o',ho',e,he,hb,hon⟩:=Region.waitsFor_spec h1;have:o'=ot:=D3c (ho'.symm.trans hot);subst this;have h2:=hall e he hb;rw [hon,getD_both (inv.tail (t-1) (by omega) (by omega))] at h2
   cases h2
def E0a (P:Program) (md:Region.Mode) (ops:Array Oper) (Q:Exit->Act->World->Prop) (S:World->Prop) (R:World->World->Prop) (n G:Nat):Nat->Array Bool->Act->World->Prop
 | 0,listed,a,w=>(∀ j ∈ Region.ready md ops listed,n<=j) /\ ∀ w',R w w'->S w'->wpAny P md ops Q G listed a w'
 | f+1,listed,a,w=>∀ w',R w w'->S w'->Region.ready md ops listed ≠ [] /\
     ∀ i ∈ Region.ready md ops listed,i < n/\wpOp P ops Q i (fun a' w''=>S w''/\E0a P md ops Q S R n G f (listed.setIfInBounds i true) a' w'') a w'
variable {n G:Nat}
theorem E0a.mono (hT:∀ a b c,R a b->R b c->R a c):∀ {f:Nat} {listed:Array Bool} {a:Act} {w w1:World},R w w1->E0a P md ops Q S R n G f listed a w->E0a P md ops Q S R n G f listed a w1
 | 0,_,_,_,_,hr,h=>⟨h.1,fun w' r s=>h.2 w' (hT _ _ _ hr r) s⟩
 | _+1,_,_,_,_,hr,h=>fun w' r s=>h w' (hT _ _ _ hr r) s
theorem l9a (hR:∀ w,R w w):∀ (f:Nat) (listed:Array Bool) (a:Act) (w:World),S w->E0a P md ops Q S R n G f listed a w->wpAny P md ops Q (f+G) listed a w
 | 0,_,_,w,hS,h=>by rw [G4c];exact h.2 w (hR w) hS
 | f+1,_,_,w,hS,h=>by
  rw [show f+1+G=(f+G)+1 by omega];exact ⟨fun h0=>absurd h0 (h w (hR w) hS).1,fun i hi=>wpOp_mono (fun a' w' h'=>l9a hR f _ a' w' h'.1 h'.2) ((h w (hR w) hS).2 i hi).2⟩
theorem w2a {oi:Oper} {v:Value} (hR:∀ w,R w w) (hT:∀ a b c,R a b->R b c->R a c) (hi:ops[i]? = some oi) (hsel:∀ (j:Nat) (o:Oper) cs b,ops[j]? = some o->o.op ≠ .select cs b)
    (hQ:∀ c a w,Q (.panic c) (a.put oi.dst v) w->Q (.panic c) a w) (hc:Region.chainB md ops n=true) (hin:i < n) :
    ∀ (f:Nat) (listed:Array Bool) (a:Act) (w:World),HeadInv md ops n listed->Sunk md ops n listed ->
     (∀ j oj,ops[j]? = some oj->j ≠ i->listed.getD j true=false->(∀ e ∈ oj.after,Region.binds md e=true->e.on ≠ i)->oi.apart ops oj=true) ->
     i ∈ Region.ready md ops listed->F1a P ops S R oi v a ->
     E0a P md ops Q S R n G f (listed.setIfInBounds i true) (a.put oi.dst v) w->E0a P md ops Q S R n G (f+1) listed a w:=by
  intro f
  induction f with
  | zero=>
   intro listed a w inv hs _ hr hy H w' r s;have hun:=(mem_ready.1 hr).1;refine ⟨fun h=>(by rw [h] at hr;cases hr),fun j hj=>?_⟩
   have hjn:j < n:=by
    rcases G3c j n with h | h
    . exact h
    exact absurd hj (z0a hs hc inv _ i rfl hin hun j h)
   refine ⟨hjn, ?_⟩
   by_cases hji:j=i
   . subst hji;exact hy.wpOp hi hR s fun w'' r' s'=>⟨s',E0a.mono hT (hT _ _ _ r r') H⟩
   have:=H.1 j (ready_mono hj hji);omega
  | succ f ih=>
   intro listed a w inv hs hfree hr hy H w' r s;have hun:listed.getD i true=false:=(mem_ready.1 hr).1;refine ⟨fun h=>(by rw [h] at hr;cases hr),fun j hj=>?_⟩
   have hjn:j < n:=by
    rcases G3c j n with h | h
    . exact h
    exact absurd hj (z0a hs hc inv _ i rfl hin hun j h)
   refine ⟨hjn, ?_⟩
   by_cases hji:j=i
   . subst hji;exact hy.wpOp hi hR s fun w'' r' s'=>⟨s',E0a.mono hT (hT _ _ _ r r') H⟩
   have h1:=((H w' r s).2 j (ready_mono hj hji)).2;obtain ⟨hjun,oj,hoj,hall⟩:=mem_ready.1 hj;have hnot:∀ e ∈ oj.after,Region.binds md e=true->e.on ≠ i:=by
    intro e he hb heq;have h2:=hall e he hb;rw [heq,getD_both hun] at h2
    cases h2
   have h2:=m9a hoj (hfree j oj hoj hji hjun hnot) (fun cs b=>hsel i oi cs b hi) (fun cs b=>hsel j oj cs b hoj) hQ hy h1;refine wpOp_mono ?_ h2;rintro a' w'' ⟨hy',hs',hk⟩;refine ⟨hs',ih (listed.setIfInBounds j true) a' w'' (inv.set hj hjn) hs.set ?_ (ready_mono hr (Ne.symm hji)) hy' ?_⟩
   . intro k ok hk hki hu hno;refine hfree k ok hk hki ?_ hno
     by_cases hjk:j=k
     . subst hjk;exact hjun
     rw [getD_set_ne true hjk] at hu;exact hu
   rw [Array.setIfInBounds_comm _ _ hji];exact hk
def takeB (md:Region.Mode) (ops:Array Oper) (n:Nat) (listed:Array Bool) (i:Nat):Bool:=
 Region.noSelect ops && Region.chainB md ops n && s1a md ops n listed && I5b md ops n listed && decide (i < n) && (Region.ready md ops listed).contains i && Region.free md ops listed i
theorem K5a {oi:Oper} {v:Value} {listed:Array Bool} {a:Act} (hR:∀ w,R w w) (hT:∀ a b c,R a b->R b c->R a c) (hi:ops[i]? = some oi)
    (hb:takeB md ops n listed i=true) (hQ:∀ c a w,Q (.panic c) (a.put oi.dst v) w->Q (.panic c) a w) (hy:F1a P ops S R oi v a)
    (h:E0a P md ops Q S R n G f (listed.setIfInBounds i true) (a.put oi.dst v) w):E0a P md ops Q S R n G (f+1) listed a w:=by
  simp only [takeB,B8c,A1c] at hb;obtain ⟨⟨⟨⟨⟨⟨b1,b2⟩,b3⟩,b4⟩,b5⟩,b6⟩,b7⟩:=hb;exact w2a hR hT hi (Region.noSelect_spec b1) hQ b2 b5 f listed a w (t0a b3) (p1a b4) (Region.free_spec hi b7) (by simpa using b6) hy h
theorem A9a {l:List Oper} {listed:Array Bool} {a:Act} (hb:Region.seqB md l.toArray (l.drop n).length n listed=true)
    (h:∀ w',R w w'->S w'->wpList P l.toArray Q (l.drop n) a w'):E0a P md l.toArray Q S R n (l.drop n).length 0 listed a w:=
  ⟨seqB_ready hb,fun w' r s=>wpAny_of_seq (l.drop n) n listed a w' (fun j=>by simp [w1b]) hb (h w' r s)⟩
theorem B3a {l:List Oper} {listed:Array Bool} {a:Act} (n f:Nat) (hR:∀ w,R w w) (hS:S w)
    (h:E0a P md l.toArray Q S R n (l.drop n).length f listed a w) {N:Nat} (hN:f+(l.drop n).length=N):wpAny P md l.toArray Q N listed a w:=by
  subst hN;exact l9a hR f listed a w hS h
end
section
variable {P:Program} {ops:Array Oper} {Q:Exit->Act->World->Prop} {md:Region.Mode} {S:World->Prop} {n G:Nat}
theorem tkX (i:Nat) {oi:Oper} {v:Value} {listed:Array Bool} {a:Act} (hi:ops[i]? = some oi) (hy:F1a P ops S Ext oi v a) (h:E0a P md ops Q S Ext n G f (listed.setIfInBounds i true) (a.put oi.dst v) w)
    (hb:takeB md ops n listed i=true:=by kernel_rfl) (hQ:∀ c a w,Q (.panic c) (a.put oi.dst v) w->Q (.panic c) a w:=by exact (fun _ _ _ h=>h)):E0a P md ops Q S Ext n G (f+1) listed a w:=
  K5a Ext.refl (fun _ _ _=>Ext.trans) hi hb hQ hy h
theorem tkZ (i:Nat) {oi:Oper} {v:Value} {listed:Array Bool} {a:Act} (hi:ops[i]? = some oi) (hy:∀ w,S w->(execOp a.eval oi).run P w = .ok (.value v) w) (h:E0a P md ops Q S Ext n G f (listed.setIfInBounds i true) (a.put oi.dst v) w)
    (hw:Region.wanted oi (yielded ops a.tmps)=true:=by rfl) (hb:takeB md ops n listed i=true:=by kernel_rfl) (hQ:∀ c a w,Q (.panic c) (a.put oi.dst v) w->Q (.panic c) a w:=by exact (fun _ _ _ h=>h)):E0a P md ops Q S Ext n G (f+1) listed a w:=
  K5a Ext.refl (fun _ _ _=>Ext.trans) hi hb hQ (Or.inl (Or.inl ⟨hw,hy⟩)) h
theorem tkY (i:Nat) {oi:Oper} {v:Value} {q:Prop} {listed:Array Bool} {a:Act} (h:q) (hi:ops[i]? = some oi:=by exact rfl) (hy:∀ w,S w->(execOp a.eval oi).run P w = .ok (.value v) w:=by intro w q;go_simp;try with_reducible rfl) (e:E0a P md ops Q S Ext n G f (listed.setIfInBounds i true) (a.put oi.dst v) w=q:=by first | (simp only [u2b,s3b,s4b,Act.put,q2b,w6b,w7b];exact rfl) | exact rfl)
    (hw:Region.wanted oi (yielded ops a.tmps)=true:=by rfl) (hb:takeB md ops n listed i=true:=by kernel_rfl) (hQ:∀ c a w,Q (.panic c) (a.put oi.dst v) w->Q (.panic c) a w:=by exact (fun _ _ _ h=>h)):E0a P md ops Q S Ext n G (f+1) listed a w:=
  K5a Ext.refl (fun _ _ _=>Ext.trans) hi hb hQ (Or.inl (Or.inl ⟨hw,hy⟩)) (e.mpr h)
theorem tkM (i:Nat) {oi:Oper} {q:Prop} {listed:Array Bool} {a:Act} (h:q) (hi:ops[i]? = some oi:=by exact rfl) (e:E0a P md ops Q S Ext n G f (listed.setIfInBounds i true) (a.put oi.dst undef) w=q:=by first | (simp only [u2b,s3b,s4b,Act.put,q2b,w6b,w7b];exact rfl) | exact rfl)
    (hw:Region.wanted oi (yielded ops a.tmps)=false:=by rfl) (hb:takeB md ops n listed i=true:=by kernel_rfl) (hQ:∀ c a w,Q (.panic c) (a.put oi.dst undef) w->Q (.panic c) a w:=by exact (fun _ _ _ h=>h)):E0a P md ops Q S Ext n G (f+1) listed a w:=
  K5a Ext.refl (fun _ _ _=>Ext.trans) hi hb hQ (Or.inl (Or.inr ⟨hw,rfl⟩)) (e.mpr h)
theorem tkE (i:Nat) {oi:Oper} {v:Value} {listed:Array Bool} {a:Act} (hi:ops[i]? = some oi) (hy:∀ w,S w->(execOp a.eval oi).run P w = .ok (.value v) w) (h:E0a P md ops Q S Eq n G f (listed.setIfInBounds i true) (a.put oi.dst v) w)
    (hw:Region.wanted oi (yielded ops a.tmps)=true:=by rfl) (hb:takeB md ops n listed i=true:=by kernel_rfl) (hQ:∀ c a w,Q (.panic c) (a.put oi.dst v) w->Q (.panic c) a w:=by exact (fun _ _ _ h=>h)):E0a P md ops Q S Eq n G (f+1) listed a w:=
  K5a (fun _=>rfl) (fun _ _ _ h k=>h.trans k) hi hb hQ (Or.inl (Or.inl ⟨hw,hy⟩)) h
theorem tkF (i:Nat) {oi:Oper} {v:Value} {q:Prop} {listed:Array Bool} {a:Act} (h:q) (hi:ops[i]? = some oi:=by exact rfl) (hy:∀ w,S w->(execOp a.eval oi).run P w = .ok (.value v) w:=by intro w q;go_simp;try with_reducible rfl) (e:E0a P md ops Q S Eq n G f (listed.setIfInBounds i true) (a.put oi.dst v) w=q:=by first | (simp only [u2b,s3b,s4b,Act.put,q2b,w6b,w7b];exact rfl) | exact rfl)
    (hw:Region.wanted oi (yielded ops a.tmps)=true:=by rfl) (hb:takeB md ops n listed i=true:=by kernel_rfl) (hQ:∀ c a w,Q (.panic c) (a.put oi.dst v) w->Q (.panic c) a w:=by exact (fun _ _ _ h=>h)):E0a P md ops Q S Eq n G (f+1) listed a w:=
  K5a (fun _=>rfl) (fun _ _ _ h k=>h.trans k) hi hb hQ (Or.inl (Or.inl ⟨hw,hy⟩)) (e.mpr h)
theorem tkA (i:Nat) {oi:Oper} {v:Value} {fuel:Nat} {listed:Array Bool} {a:Act} (hi:ops[i]? = some oi) (hy:∀ w,(execOp a.eval oi).run P w = .ok (.value v) w) (h:wpAny P md ops Q fuel (listed.setIfInBounds i true) (a.put oi.dst v) w)
    (hw:Region.wanted oi (yielded ops a.tmps)=true:=by rfl) (hs:Region.noSelect ops=true:=by kernel_rfl) (hf:Region.free md ops listed i=true:=by kernel_rfl) (hr:(Region.ready md ops listed).contains i=true:=by kernel_rfl) (hQ:∀ c a w,Q (.panic c) (a.put oi.dst v) w->Q (.panic c) a w:=by exact (fun _ _ _ h=>h)):wpAny P md ops Q (fuel+1) listed a w:=
  wpAny_take hi hs hf hr hQ (Or.inl ⟨hw,hy⟩) h
theorem tkB (i:Nat) {oi:Oper} {v:Value} {q:Prop} {fuel:Nat} {listed:Array Bool} {a:Act} (h:q) (hi:ops[i]? = some oi:=by exact rfl) (hy:∀ w,(execOp a.eval oi).run P w = .ok (.value v) w:=by intro w;go_simp;try with_reducible rfl) (e:wpAny P md ops Q fuel (listed.setIfInBounds i true) (a.put oi.dst v) w=q:=by first | (simp only [u2b,s3b,s4b,Act.put,q2b,w6b,w7b];exact rfl) | exact rfl)
    (hw:Region.wanted oi (yielded ops a.tmps)=true:=by rfl) (hs:Region.noSelect ops=true:=by kernel_rfl) (hf:Region.free md ops listed i=true:=by kernel_rfl) (hr:(Region.ready md ops listed).contains i=true:=by kernel_rfl) (hQ:∀ c a w,Q (.panic c) (a.put oi.dst v) w->Q (.panic c) a w:=by exact (fun _ _ _ h=>h)):wpAny P md ops Q (fuel+1) listed a w:=
  wpAny_take hi hs hf hr hQ (Or.inl ⟨hw,hy⟩) (e.mpr h)
end
open Go.RowKit
theorem N9a (h:HAt w d S) (hz:Hp.zero S.words i n=some W) (hn:0 < n) (c:Nat) (ty:TypeId) :
    (Builtin.clear_ #[22] ty #[.slice (some ⟨d.gw,i,none⟩) n c]).run prog w = .ok (.tuple #[]) (w.setCells d.gw i (List.replicate n (.int .i64 0))):=
  Lib.run_clear_slice w _ 3 ty (.int .i64 0) underlying22 (fun w=>zeroValue3 w) rfl rfl d.gw i n c hn
   (fun j hj=>by
    obtain ⟨x,hx⟩:=A4a (l:=S.words) (j:=i+j) (by have:=(HAt.O7a hz).2;omega);rw [h.words.get hx];rfl)
   (fun j _=>h.words.froz _)
theorem G9a {W':List Int} {wide link r:Nat} (h:Hp.Hs.F2a W wide n link=some (r,W')) :
    ∃ n' a,n=n'+1/\Hp.ra W link=some a/\((a=0/\r=0/\W'=W) \/ (a ≠ 0 /\ ∃ v next,Hp.rc W (a+1)=some v/\Hp.rd W (a+2)=some next /\
     ((v-wide=0/\r=a /\ ∃ W1,Hp.wr W link next=some W1/\Hp.zero W1 a wide=some W') \/
      (v-wide ≠ 0/\3<=v-wide/\r=a /\ ∃ W1 W2 W3 W4,Hp.wr W (a+wide) 0=some W1/\Hp.wr W1 (a+wide+1) (v-wide)=some W2/\Hp.wr W2 (a+wide+2) next=some W3/\Hp.wr W3 link (a+wide:Nat)=some W4/\Hp.zero W4 a wide=some W') \/
      (v-wide ≠ 0 /\ ¬ 3<=v-wide/\Hp.Hs.F2a W wide n' (a+2)=some (r,W'))))):=by
  cases n with
  | zero=>simp [Hp.Hs.F2a] at h
  | succ n=>
   unfold Hp.Hs.F2a at h;simp only [v9b,s0b] at h;obtain ⟨a,ha,h⟩:=h;refine ⟨n,a,rfl,ha, ?_⟩
   split at h
   . rename_i h0;simp only [z7b,F1c] at h;exact .inl ⟨h0,h.1.symm,h.2.symm⟩
   rename_i h0;simp only [s0b] at h;obtain ⟨v,hv,next,hx,h⟩:=h;refine .inr ⟨h0,v,next,hv,hx, ?_⟩
   split at h
   . rename_i h1;simp only [s0b,z7b,F1c] at h;obtain ⟨W1,hW1,W2,hW2,h2,rfl⟩:=h;exact .inl ⟨h1,h2.symm,W1,hW1,hW2⟩
   rename_i h1
   split at h
   . rename_i h3;simp only [s0b,z7b,F1c] at h;obtain ⟨W1,hW1,W2,hW2,W3,hW3,W4,hW4,W5,hW5,h2,rfl⟩:=h;exact .inr (.inl ⟨h1,h3,h2.symm,W1,W2,W3,W4,hW1,hW2,hW3,hW4,hW5⟩)
   rename_i h3;exact .inr (.inr ⟨h1,h3,h⟩)
theorem take_any {wide r:Nat} (h:HAt w d S) (hn:0 < wide) (hw:wide<=1000) (hr:S.take wide=some (r,W)) :
    Calls prog 157 #[.pointer (some ⟨d.hb,0,none⟩),.int .i64 wide] w (Turned d w (.int .i64 r) { S with words:=W }):=by
  unfold Hp.Hs.take at hr;have hle:=h.le;have hcap:=h.cap;have c2:=h.c2;have f2:=h.f2;have z1:=h.lt;have z2:=h.words.lt;have ap:=h.apart1;have ap':=h.apart1.symm;have H:=hZ (Now.refl h);have HR:=hZ hr;have hl16:16 < S.words.length:=by
   obtain ⟨n',a,_,ha,_⟩:=G9a hr;exact G0a (C6a ha)
  obtain ⟨x16,hx16⟩:∃ x,Hp.ra S.words 16=some x:=by
   obtain ⟨n',a,_,ha,_⟩:=G9a hr;exact ⟨a,ha⟩
  have g16:=h.words.get (C6a hx16);have X16:=hZ hx16;clear h hr hx16;go_enter func157,ntmps157
  go_wp2_with fail
  go_step3
  go_wp2_with fail
  go_step3
  go_wp2_with fail
  go_loopg [5,6] S.fuel (fun g l s wr=>∃ m link a:Nat,wr=w/\m<=g/\l = .int .i64 link/\s = .int .i64 a/\link < S.words.length/\Hid (Hp.ra S.words link=some a)/\Hid (Hp.Hs.F2a S.words wide m link=some (r,W)))
  case atStart=>exact ⟨S.fuel,16,x16,rfl,H0c _,rfl,rfl,hl16,X16,HR⟩
  case round=>
   obtain ⟨m,link,a,rfl,hm,rfl,rfl,hlink,HA,HL⟩:=hrel;clear g16;obtain ⟨n',a1,hn',ha1,hq⟩:=G9a HL.out;have e:=HA.out;rw [ha1] at e
   cases e
   have Hn:=hZ hn';clear hn' ha1
   rcases hq with ⟨rfl,rfl,rfl⟩ | ⟨ha,v,next,hv,hx,hq⟩
   . go_wp2_with fail
     go_returns;exact H.out.done
   obtain ⟨hv,hv1,hv2⟩:=S3a hv;have g1:=H.out.words.get hv;have g2:=H.out.words.get hx;have l1:=G0a hv;have l2:=G0a hx;have HX:=hZ hx;have ha':((a:Int) != 0)=true:=by simpa using ha
   clear hv hx
   rcases hq with ⟨h0,rfl,W1,hW1,hW2⟩ | ⟨h0,h3,rfl,W1,W2,W3,W4,hW1,hW2,hW3,hW4,hW5⟩ | ⟨h0,h3,hq⟩
   . have hb:=H.out.words.bound HX.out;have HB:=hZ hb;have t0:((v-(wide:Int)) == 0)=true:=by simpa using h0
     have hz:=(HAt.O7a hW2).2;have e1:S.words.length=W1.length:=(HAt.D9a hW1).1.symm;rw [<- e1] at hz;have EW1:=hZ hW1;have EW2:=hZ hW2;clear h0 hW1 e1 hb hW2
     go_wp2_with fail
     clear c2 f2 g1 g2 z1 z2;refine wp_region_still_tail 13 (by kernel_rfl) (by kernel_rfl) ?_;change wpStill _ _ (World.drew wr) (fun a'=>wpList _ _ _ _ a' (World.drew wr)) _ _;have ED:Ext wr (World.drew wr):=Ext.drew (Ext.refl _);have HD:=hZ (H.out.ext ED);generalize World.drew wr=wd at HD ED ⊢;have c2:=HD.out.c2;have c3:=HD.out.c3;have f2:=HD.out.f2;have z1:=HD.out.lt;have z2:=HD.out.words.lt;have g1:=HD.out.words.get HX.out;have fr:=HD.out.words.froz link;have g0:=HD.out.words.get (C6a HA.out);obtain ⟨i1,i2,i3,i4⟩:IntKind.i64.wrap (((r:Nat):Int)+2)=((r:Nat):Int)+2/\(0:Int)<=((r:Nat):Int)+2/\((r:Nat):Int)+2 < ((S.words.length:Nat):Int)/\(((r:Nat):Int)+2).toNat=r+2:=⟨E4c _ (by omega),by omega,by omega,by omega⟩
     simp only [v1b,E0c,v0b,D9c]
     repeat still_step
     refine wpStill_nil ?_;clear i1 i2 i3 i4 g1;have H1:=hZ (HD.out.set EW1.out HB.out.1 HB.out.2);have hcl:=fun c ty=>N9a H1.out.toHAt EW2.out hn c ty
     go_wp2_with fail
     (try rw [Exit.noGoto_ret])
     go_returns;exact (H1.out.clear EW2.out).done
   . have hb:=H.out.words.bound HX.out;have HB:=hZ hb;have t0:((v-(wide:Int)) == 0)=false:=by simpa using h0
     have hz:=(HAt.O7a hW5).2;have b1:=HAt.D9a hW1;have b2:=HAt.D9a hW2;have b3:=HAt.D9a hW3;have b4:=HAt.D9a hW4;have q1:=b1.2;have q2:r+wide+1 < S.words.length:=by have:=b2.2;rw [b1.1] at this;exact this
     have q3:r+wide+2 < S.words.length:=by have:=b3.2;rw [b2.1,b1.1] at this;exact this
     rw [b4.1,b3.1,b2.1,b1.1] at hz;obtain ⟨y1,hy1⟩:=A4a q1;obtain ⟨y2,hy2⟩:=A4a q2;obtain ⟨y3,hy3⟩:=A4a q3;have Y1:=hZ hy1;have Y2:=hZ hy2;have Y3:=hZ hy3;clear hy1 hy2 hy3;have EW1:=hZ hW1;have EW2:=hZ hW2;have EW3:=hZ hW3;have EW4:=hZ hW4;have EW5:=hZ hW5;clear h0 hW1 hb hW2 hW3 hW4 hW5 b1 b2 b3 b4
     go_wp2_with fail
     clear c2 f2 g1 g2 z1 z2;obtain ⟨i1,i2,i3,i4⟩:IntKind.i64.wrap (((r:Nat):Int)+2)=((r:Nat):Int)+2/\(0:Int)<=((r:Nat):Int)+2/\((r:Nat):Int)+2 < ((S.words.length:Nat):Int)/\(((r:Nat):Int)+2).toNat=r+2:=⟨E4c _ (by omega),by omega,by omega,by omega⟩
     obtain ⟨k1,k2,k3,k4⟩:IntKind.i64.wrap (((r:Nat):Int)+((wide:Nat):Int))=((r:Nat):Int)+((wide:Nat):Int)/\(0:Int)<=((r:Nat):Int)+((wide:Nat):Int)/\((r:Nat):Int)+((wide:Nat):Int) < ((S.words.length:Nat):Int)/\(((r:Nat):Int)+((wide:Nat):Int)).toNat=r+wide:=⟨E4c _ (by omega),by omega,by omega,by omega⟩
     obtain ⟨l1,l2,l3,l4⟩:IntKind.i64.wrap (((r:Nat):Int)+((wide:Nat):Int)+1)=((r:Nat):Int)+((wide:Nat):Int)+1/\(0:Int)<=((r:Nat):Int)+((wide:Nat):Int)+1/\((r:Nat):Int)+((wide:Nat):Int)+1 < ((S.words.length:Nat):Int)/\(((r:Nat):Int)+((wide:Nat):Int)+1).toNat=r+wide+1:=⟨E4c _ (by omega),by omega,by omega,by omega⟩
     obtain ⟨m1,m2,m3,m4⟩:IntKind.i64.wrap (((r:Nat):Int)+((wide:Nat):Int)+2)=((r:Nat):Int)+((wide:Nat):Int)+2/\(0:Int)<=((r:Nat):Int)+((wide:Nat):Int)+2/\((r:Nat):Int)+((wide:Nat):Int)+2 < ((S.words.length:Nat):Int)/\(((r:Nat):Int)+((wide:Nat):Int)+2).toNat=r+wide+2:=⟨E4c _ (by omega),by omega,by omega,by omega⟩
     have c2:=H.out.c2;have z1:=H.out.lt;have z2:=H.out.words.lt;have g1:=H.out.words.get HX.out;refine wp_region_any (by kernel_rfl) ?_;refine' tkB 9 ?_;refine' tkB 10 ?_;refine' tkB 15 ?_;refine' tkB 16 ?_;refine' tkB 17 ?_;have pr3a:=Ext.r c2
     have pr3b:=Ext.r g1
     refine B3a (S:=fun W=>Ext wr W) (R:=Ext) 26 21 Ext.refl ?_ ?_ (by rfl)
     . exact Ext.drew exx
     refine' tkY 0 ?_;refine' tkY 1 ?_;refine' tkY 2 ?_;refine' tkY 3 ?_;refine' tkY 4 ?_;refine' tkY 5 ?_;refine' tkY 6 ?_;refine' tkY 7 ?_;refine' tkY 8 ?_;refine' tkY 11 ?_;refine' tkY 12 ?_;refine' tkY 13 ?_;refine' tkY 14 ?_;refine' tkY 18 ?_;refine' tkY 19 ?_;refine' tkY 20 ?_;refine' tkY 21 ?_;refine' tkY 22 ?_;refine' tkY 23 ?_;refine' tkY 24 ?_;refine' tkY 25 ?_;refine A9a (by kernel_rfl) ?_;intro wd _ Ewd;clear pr3a pr3b;simp only [v0b,D9c];clear c2 z1 z2 g1;have HD:=hZ (H.out.ext Ewd);have c2:=HD.out.c2;have f2:=HD.out.f2;have z1:=HD.out.lt;have z2:=HD.out.words.lt;have fr:=HD.out.words.froz link;have g0:=HD.out.words.get (C6a HA.out);have g3:=HD.out.words.get Y1.out;have g4:=HD.out.words.get Y2.out;have g5:=HD.out.words.get Y3.out;have fr1:=HD.out.words.froz (r+wide);have fr2:=HD.out.words.froz (r+wide+1);have fr3:=HD.out.words.froz (r+wide+2);clear i1 i2 i3 i4 k1 k2 k3 k4 l1 l2 l3 l4 m1 m2 m3 m4;have H1:=hZ (HD.out.set EW1.out (by omega) (by omega));have H2:=hZ (H1.out.set EW2.out (by omega) (by omega));have H3:=hZ (H2.out.set EW3.out HB.out.1 HB.out.2);go_upto_region 12 with (fail)
     refine Now.cut H3.out ?_;intro w3 N3;have H3:=hZ N3;clear N3 fr fr1 fr2 fr3 g0 g3 g4 g5 c2 f2 z1 z2 H1 H2;have c2:=H3.out.c2;have f2:=H3.out.f2;have z1:=H3.out.lt;have z2:=H3.out.words.lt;have fr:=H3.out.words.froz link;have e3:=(HAt.D9a EW4.out).2;obtain ⟨y,hy⟩:=A4a e3;have g:=H3.out.words.get hy;have Y:=hZ hy;have H4:=hZ (H3.out.set EW4.out (by omega) (by omega));have hcl:=fun c ty=>N9a H4.out.toHAt EW5.out hn c ty
     simp only [D2c] at hcl H4;have E3:=hZ e3;clear hy e3
     go_wp2_with fail
     go_returns;exact (H4.out.clear EW5.out).done
   have t0:((v-(wide:Int)) == 0)=false:=by simpa using h0
   have hz:a+2 < S.words.length:=l2;obtain ⟨_,a2,_,hra2,_⟩:=G9a hq;obtain rfl:next=(a2:Int):=by
    have h1:=HX.out;have h2:=C6a hra2;rw [h2] at h1;exact (D3c h1).symm
   have g3:=H.out.words.get (C6a hra2);have A2:=hZ hra2;have HQ:=hZ hq;clear h0 hq hra2
   go_wp2_with fail
   go_roundg n'
   case measure=>have:=Hn.out;omega
   case rel=>exact ⟨n',a+2,a2,rfl,H0c _,by go_num,rfl,hz,A2,HQ⟩
open Go.RowKit Go.Maps Go.WideElems Go.ChangeMaps
theorem D6b {H:Type} {P:Program} {t k e:TypeId} {R:Value->Option (DataW H × List MemPlace)} {es:Array MapEntry} {clock:Nat}
    (K:Keyed P k) (ht:P.underlying t=some (.map k e)) {z:Value} (hz:∀ u:World,(zeroValue e).run P u = .ok z u) (hb:w.heap[b]? = some (.map es clock)) (F:WideElems.Fit P k R es clock)
    {key:Value} {kl:Lit} (hkey:keyOf P k key=some kl) (val:Value) :
    ∃ (v0:Value) (st:Nat) (w1 w2:World),(Instr.mapEntry t (.map (some b)) key).run P w = .ok (.tuple #[v0,goInt st]) w1/\w.mapTurned w1 b /\
     (Instr.entryStore t (.map (some b)) (goInt st) val).run P w1 = .ok () w2/\(Instr.mapUpdate t (.map (some b)) key val).run P w = .ok () w2:=by
  obtain ⟨s1,s2,_⟩:=F.stamped
  rcases K.find w hkey es.toList F.keys with ⟨h1,_⟩ | ⟨j,e0,h1,h2,h3⟩
  . have hb1:(setBlock w b (.map (es.push ⟨key,z,clock⟩) (clock+1))).heap[b]? = some (.map (es.push ⟨key,z,clock⟩) (clock+1)):=heap_setBlock_same hb _;have hi:(es.push ⟨key,z,clock⟩).findIdx? (fun x=>((x.born:Nat):Int) == ((clock:Nat):Int))=some es.size:=by
     rw [findIdx_arr];refine findIdx_born (l:=(es.push ⟨key,z,clock⟩).toList) (j:=es.size) (e0:=⟨key,z,clock⟩) ?_ (by simp);rw [z6b,C5c,y8b];refine ⟨s2,by simp, ?_⟩;intro a ha c hc;obtain ⟨x,hx,rfl⟩:=F7c.1 ha;have:=s1 x hx;simp only [E7c,F9c,w8b] at hc;omega
    have hm:(es.push ⟨key,z,clock⟩).modify es.size (fun x=>{ x with val:=val })=es.push ⟨key,val,clock⟩:=by
     apply Array.ext';rw [w0b,z6b,z6b,<- Array.length_toList];exact modify_last _ _ _
    refine ⟨z,clock,_,setBlock w b (.map (es.push ⟨key,val,clock⟩) (clock+1)), ?_,⟨es,clock,es.push ⟨key,z,clock⟩,clock+1,hb,rfl⟩, ?_, ?_⟩
    . simp [Instr.mapEntry,run_underlying ht,MapKept.run_getObj_map hb,K.check w false hkey,h1,hz,MapKept.run_setObj_map _ hb,Result.andThen,setBlock]
    . have hs:=MapKept.run_setObj_map (P:=P) (.map (es.push ⟨key,val,clock⟩) (clock+1)) hb1;simp only [Instr.entryStore,Sem.run_bind,MapKept.run_getObj_map hb1,Result.andThen,asInt,asIntOf,goInt];simp [hi,hm,setBlock];exact hs.trans (by simp [setBlock])
    simp [Instr.mapUpdate,run_underlying ht,MapKept.run_getObj_map hb,K.check w false hkey,h1,MapKept.run_setObj_map _ hb,Result.andThen,setBlock]
  have hj:es[j]? = some e0:=by simpa using h2
  have hsame:es.modify j (fun x=>{ x with key:=key })=es:=by
   apply Array.ext';rw [w0b,modify_eq_set _ _ _ _ h2];have e1:({ e0 with key:=key }:MapEntry)=e0:=by rw [<- h3]
   rw [e1];exact set_self _ _ _ h2
  have hb1:(setBlock w b (.map es clock)).heap[b]? = some (.map es clock):=heap_setBlock_same hb _;have hi:es.findIdx? (fun x=>((x.born:Nat):Int) == ((e0.born:Nat):Int))=some j:=by
   rw [findIdx_arr];exact findIdx_born s2 h2
  have hm:es.modify j (fun x=>{ x with val:=val })=es.modify j (fun x=>{ x with key:=key,val:=val }):=by
   apply Array.ext';rw [w0b,w0b,modify_eq_set _ _ _ _ h2,modify_eq_set _ _ _ _ h2,<- h3]
  refine ⟨e0.val,e0.born,setBlock w b (.map es clock),setBlock w b (.map (es.modify j (fun x=>{ x with key:=key,val:=val })) clock), ?_,⟨es,clock,es,clock,hb,rfl⟩, ?_, ?_⟩
  . simp [Instr.mapEntry,run_underlying ht,MapKept.run_getObj_map hb,K.check w false hkey,h1,hj,h3,K.stays w hkey,hsame,MapKept.run_setObj_map _ hb,Result.andThen,setBlock]
  . have hs:=MapKept.run_setObj_map (P:=P) (.map (es.modify j (fun x=>{ x with val:=val })) clock) hb1;simp only [Instr.entryStore,Sem.run_bind,MapKept.run_getObj_map hb1,Result.andThen,asInt,asIntOf,goInt];rw [hm] at hs;simp [hi,hm,setBlock];exact hs.trans (by simp [setBlock])
  simp [Instr.mapUpdate,run_underlying ht,MapKept.run_getObj_map hb,K.check w false hkey,h1,hj,h3,K.stays w hkey,MapKept.run_setObj_map _ hb,Result.andThen,setBlock]
namespace MapAt
variable {P:Program} {w w':World} {g:Nat} {T:List Nat} {t:TypeId}
theorem enter (h:MapAt P w g T) (hk:P.underlying 3=some (.int .i64)) (he:P.underlying 4=some .bool) (ht:P.underlying t=some (.map 3 4)) (hz:∀ u:World,(zeroValue 4).run P u = .ok (.bool false) u)
    (hn:T.length < maxLen) {a:Nat} (ha:(a:Int)<=9223372036854775807) :
    ∃ (v0:Value) (st:Nat) (w1 w2:World),(Instr.mapEntry t (.map (some g)) (.int .i64 a)).run P w = .ok (.tuple #[v0,goInt st]) w1/\w.mapTurned w1 g /\
     (Instr.entryStore t (.map (some g)) (goInt st) (.bool true)).run P w1 = .ok () w2/\MapAt P w2 g (Hp.Hs.insert a T)/\w.mapTurned w2 g:=by
  have wf:(Lit.int .i64 a).wf=true:=WalkArith.wf_i64 (by omega);obtain ⟨w2,hrun,hm,ht2⟩:=h.put hk he ht hn ha;obtain ⟨es,clock,hb,F,_,_⟩:=h.owns;obtain ⟨v0,st,w1,w2',h1,h2,h3,h4⟩:=D6b (w:=w) (int_keyed hk) ht hz hb F (keyOf_int_mk hk wf) (.bool true);rw [hrun] at h4
  cases h4
  exact ⟨v0,st,w1,w2,h1,h2,h3,hm,ht2⟩
end MapAt
open Go.RowKit
def kp (d:Hd) (a:Nat) (t:Int):Option Addr:=if Hp.B1a t then none else some ⟨d.gw,a+4,none⟩
theorem K8a (h:S.kids a=some ks):∃ t,S.tag a=some t/\((Hp.B1a t=true/\ks=[]) \/ (Hp.B1a t=false/\S.fields a=some ks)):=by
 unfold Hp.Hs.kids at h
 simp only [v9b,s0b] at h
 obtain ⟨t,ht,h⟩:=h
 refine ⟨t,ht, ?_⟩
 cases he:Hp.B1a t
 . rw [he] at h;exact .inr ⟨rfl,by simpa using h⟩
 rw [he] at h
 exact .inl ⟨rfl,by simpa using h.symm⟩
theorem V5a (h:HAt w d S) (ht:S.tag a=some t) (hk:S.kids a=some ks) :
    Calls prog 80 #[.pointer (some ⟨d.hb,0,none⟩),.int .i64 a] w (Rt w (.slice (kp d a t) ks.length ks.length)):=by
  obtain ⟨t',ht',hq⟩:=K8a hk;rw [ht] at ht'
  cases ht'
  rcases hq with ⟨he,rfl⟩ | ⟨he,hf⟩
  . have:=d0b h ht he
    simpa [kp,he] using this
  have:=W4b h ht he hf
  simpa [kp,he] using this
theorem r9a (h:HAt w d S) (ht:S.tag a=some t) (hk:S.kids a=some ks):SliceAt w (kp d a t) ks.length ks:=by
 obtain ⟨t',ht',hq⟩:=K8a hk
 rw [ht] at ht'
 cases ht'
 rcases hq with ⟨he,rfl⟩ | ⟨he,hf⟩
 . exact ⟨H0c _,by simp,by simp,fun h=>by simp at h⟩
 have:=S5a h hf
 simpa [kp,he] using this
theorem lay_ck (h:Hp.chain t fs=some k):(∀ x ∈ fs,-9223372036854775808<=x/\x<=9223372036854775807) /\ -4611686018427387904 < t/\t < 4611686018427387904/\k < 16:=by
 simp only [Hp.chain,v9b,s0b,C9c,z7b] at h
 obtain ⟨t',ht,n0,hn,r,hr,rfl⟩:=h
 obtain ⟨rfl,h1,h2⟩:=J4a ht
 refine ⟨?_,h1,h2,by omega⟩
 clear ht hn h1 h2
 generalize (0:Int)=i at hr
 induction fs generalizing i n0 with
 | nil=>intro x hx;cases hx
 | cons f l ih=>
  simp only [Hp.sums,v9b,s0b] at hr;obtain ⟨f',hf,m,hm,hr⟩:=hr;obtain ⟨rfl,h1,h2⟩:=J4a hf;intro x hx
  rcases E6c.1 hx with rfl | hx
  . omega
  exact ih _ _ hr x hx
theorem Now.copied (h:Now w0 w d S) (hs:SliceAt w p c l) (h0:0 < l.length) (hw:Hp.lay S.words i l=some W)
    (hc:∀ x ∈ l,-9223372036854775808<=x/\x<=9223372036854775807):∃ w',(∀ n c' ty,l.length<=n->(Builtin.copy_ #[22,22] ty #[.slice (some ⟨d.gw,i,none⟩) n c',.slice p l.length c]).run prog w = .ok (goInt (l.length:Nat)) w')/\Now w0 w' d { S with words:=W } /\ (∀ {p' c' l'},SliceAt w p' c' l'->(∀ b o,p'=some ⟨b,o,none⟩->b ≠ d.gw)->SliceAt w' p' c' l'):=by
  obtain ⟨b,o,rfl,hb,hx⟩:=hs.cells h0;obtain ⟨s,hg⟩:=h.words.row;have hl:=HAt.T5a hw;have hfit:i+(ints l).length<=(ints S.words ++ s).toArray.size:=by simp [ints];omega
  have k1:But [d.gw] w (w.setRow d.gw (splice (ints S.words ++ s) i (ints l)).toArray):=(But.refl _ _).setRow (.inl (by simp)) _;refine ⟨w.setRow d.gw (splice (ints S.words ++ s) i (ints l)).toArray,fun n c' ty hn=>?_,⟨?_,(h.but).setRow (.inl d.L6a) _⟩,fun hs' hne=>hs'.but k1 (fun b o e hm=>hne b o e (by simpa using hm))⟩
  . have hm:Nat.min l.length n=l.length:=D1c hn;have:=Q7a (P:=prog) w 22 22 ty 3 1 d.gw i n c' ⟨b,o,none⟩ l.length c _ 3 (ints l) underlying22 (by kernel_rfl) hg (by rw [hm];simp [ints]) (fun j v hj=>by
     rw [G8c];obtain ⟨hj1,hj2⟩:=q5b.1 hj;have hj3:j < l.length:=by simpa [ints] using hj1
     rw [hx j l[j] (r1b hj3),<- hj2];simp [ints]) hfit (fun v hv=>by
     obtain ⟨x,_,rfl⟩:=F7c.1 hv;rfl)
    rw [hm] at this;rw [this];simp only [v5b,splice,y1b]
  refine h.toHAt.turn (k1.mono (by simp)) (h.words.spliced hw hc (fun cur hcur hle=>?_)) hl.1 (h.map.but k1 (by simp [h.apart3.symm])) (fun a ha=>by rw [hl.1];exact h.below a ha);rw [hg] at hcur;have e:cur=ints S.words ++ s:=by
   have:=D3c hcur;injection this with e1
   simpa using e1.symm
  subst e;exact setRow_heap w d.gw _ _ _ _ hg
theorem H5b {tag:Int} {r:Nat} (h:S.add tag fs=some (r,S')):∃ a0,S.look tag fs=some a0/\((a0 ≠ 0/\r=a0/\S'=S) \/ (a0=0 /\ ∃ k a W,Hp.wide S.sizes tag=some k/\S.take k=some (a,W) /\
    ((a=0/\r=0/\S' = { S with words:=W }) \/ (a ≠ 0/\r=a /\ ∃ head x W1 W2 W3 W4 ks W5,Hp.chain tag fs=some head/\Hp.rd W head=some x/\Hp.wr W a tag=some W1/\Hp.wr W1 (a+3) x=some W2/\Hp.lay W2 (a+4) fs=some W3/\Hp.wr W3 head a=some W4 /\
     Hp.Hs.kids { S with words:=W4,taken:=Hp.Hs.insert a S.taken } a=some ks/\Hp.Hs.use 1 ks.length (a+4) W4=some W5/\S' = { S with words:=W5,taken:=Hp.Hs.insert a S.taken })))):=by
  unfold Hp.Hs.add at h;simp only [v9b,s0b] at h;obtain ⟨a0,h0,h⟩:=h;refine ⟨a0,h0, ?_⟩
  split at h
  . rename_i hne;simp only [z7b,F1c] at h;exact .inl ⟨hne,h.1.symm,h.2.symm⟩
  rename_i hne;simp only [s0b] at h;obtain ⟨k,hk,⟨a,W⟩,hW,h⟩:=h;refine .inr ⟨by omega,k,a,W,hk,hW, ?_⟩;simp only at h
  split at h
  . rename_i ha;simp only [z7b,F1c] at h;exact .inl ⟨ha,h.1.symm,h.2.symm⟩
  rename_i ha;simp only [s0b,z7b,F1c] at h;obtain ⟨head,h1,x,h2,W1,h3,W2,h4,W3,h5,W4,h6,ks,h7,W5,h8,rfl,rfl⟩:=h;exact .inr ⟨ha,rfl,head,x,W1,W2,W3,W4,ks,W5,h1,h2,h3,h4,h5,h6,h7,h8,rfl⟩
theorem s6a {by':Int} {W':List Int} (h:Hp.Hs.use by' (n+1) j W=some W'):∃ k v W1,Hp.ra W j=some k/\Hp.rc W (k+1)=some v/\Hp.wr W (k+1) (v+by')=some W1/\Hp.Hs.use by' n (j+1) W1=some W':=by
 simp only [Hp.Hs.use,v9b,s0b] at h
 obtain ⟨k,hk,v,hv,W1,hW,h⟩:=h
 exact ⟨k,v,W1,hk,hv,hW,h⟩
theorem d8a:∀ {n:Nat} {W W':List Int} {wide link r:Nat},Hp.Hs.F2a W wide n link=some (r,W')->W'.length=W.length
 | 0,_,_,_,_,_,h=>by simp [Hp.Hs.F2a] at h
 | n+1,W,W',wide,link,r,h=>by
  obtain ⟨n',a,hn,_,hq⟩:=G9a h
  rcases hq with ⟨_,_,rfl⟩ | ⟨_,v,next,_,_,hq⟩
  . rfl
  rcases hq with ⟨_,_,W1,h1,h2⟩ | ⟨_,_,_,W1,W2,W3,W4,h1,h2,h3,h4,h5⟩ | ⟨_,_,h1⟩
  . rw [(HAt.O7a h2).1,(HAt.D9a h1).1]
  . rw [(HAt.O7a h5).1,(HAt.D9a h4).1,(HAt.D9a h3).1,(HAt.D9a h2).1,(HAt.D9a h1).1]
  obtain rfl:n=n':=by omega
  exact d8a h1
theorem Now.len (h:Now w0 w d S) (e:S.words.length=n):w.cell? ⟨d.hb,2,none⟩=some (.slice (some ⟨d.gw,0,none⟩) n d.cap):=by
 rw [<- e]
 exact h.c2
theorem add_any {r:Nat} {tag:Int} (h:HAt w d S) (hf:SliceAt w p c l) (h0:0 < l.length) (far:∀ b o,p=some ⟨b,o,none⟩->b ∉ d.own) (hr:S.add tag l=some (r,S')) :
    Calls prog 107 #[.pointer (some ⟨d.hb,0,none⟩),.int .i64 tag,.slice p l.length c] w (Turned d w (.int .i64 r) S'):=by
  obtain ⟨a0,hL,hq⟩:=H5b hr;have HL:=hZ hL;have HF:=hZ hf;have FAR:=hZ far;have H:=hZ (Now.refl h);clear hL hr
  rcases hq with ⟨hne,rfl,rfl⟩ | ⟨rfl,k,a,W,hk,hT,hq⟩
  . have t0:((r:Int) != 0)=true:=by simpa using hne
    clear h hf far;go_enter func107,ntmps107
    go_wp2_with (go_at_call 110;refine m4_ (s8a H.out.toHAt HF.out HL.out) fun w1 hb1 hc1 hf1 hs1=>?_)
    go_returns;exact (H.out.ext hb1).done
  have hwk:=A7b h hk;have c0:=h.c0;have c1:=h.c1;have z1:=h.lt;have hle:=h.le;have hcap:=h.cap;have ap:=h.apart1;have ap':=h.apart1.symm;have ap2:=h.apart2;have ap3:=h.apart3;have HK:=hZ hk;have HT:=hZ hT;clear h hf far hk hT
  rcases hq with ⟨rfl,rfl,rfl⟩ | ⟨ha,rfl,head,x,W1,W2,W3,W4,ks,W5,hch,hx,hW1,hW2,hW3,hW4,hks,hW5,rfl⟩
  . go_enter func107,ntmps107
    go_wp2_with (first
     | (go_at_call 110;refine m4_ (s8a H.out.toHAt HF.out HL.out) fun w1 hb1 hc1 hf1 hs1=>?_)
     | (go_at_call 123;refine m4_ (V7a (H.out.ext hb1).sizes HK.out (by omega)) fun w2 hb2 hc2 hf2 hs2=>?_)
     | (go_at_call 157;refine (take_any ((H.out.ext hb1).ext hb2).toHAt (by omega) (by omega) HT.out).mono ?_;rintro e w3 ⟨rfl,hA3,hB3⟩))
    go_returns;exact ⟨rfl,hA3,(But.E7a (hb1.trans hb2)).trans hB3⟩
  have t0:((r:Int) == 0)=false:=by simpa using ha
  have e0:W.length=S.words.length:=d8a HT.out;have e1:=(HAt.D9a hW1).1.trans e0;have e2:=(HAt.D9a hW2).1.trans e1;have e3:=(HAt.T5a hW3).1.trans e2;have e4:=(HAt.D9a hW4).1.trans e3;have b0:=G0a hx;rw [e0] at b0;have b1:=(HAt.D9a hW1).2;rw [e0] at b1;have b2:=(HAt.D9a hW2).2;rw [e1] at b2;have b3:=(HAt.T5a hW3).2;rw [e2] at b3;obtain ⟨hck,ht1,ht2,hh⟩:=lay_ck hch;have LCK:=hZ hck;have HCH:=hZ hch;have HX:=hZ hx;have EW1:=hZ hW1;have EW2:=hZ hW2;have EW3:=hZ hW3;have EW4:=hZ hW4;have EW5:=hZ hW5;have HKS:=hZ hks;generalize hn:S.words.length=n at hle e0 e1 e2 e3 e4 b0 b1 b2 b3;have E0:=hZ e0;have E1:=hZ e1;have E2:=hZ e2;have E3:=hZ e3;have E4:=hZ e4;have EN:=hZ hn;clear hn e0 e1 e2 e3 e4 hch hx hW1 hW2 hW3 hW4 hW5 hks hck;go_enter func107,ntmps107
  go_upto_region 8 with (first
   | (go_at_call 110;refine m4_ (s8a H.out.toHAt HF.out HL.out) fun w1 hb1 hc1 hf1 hs1=>?_)
   | (go_at_call 123;refine m4_ (V7a (H.out.ext hb1).sizes HK.out (by omega)) fun w2 hb2 hc2 hf2 hs2=>?_)
   | (go_at_call 157;refine (take_any ((H.out.ext hb1).ext hb2).toHAt (by omega) (by omega) HT.out).mono ?_;rintro e w3 ⟨rfl,hA3,hB3⟩;have B3:=(But.E7a (hb1.trans hb2)).trans hB3;have F3:=HF.out.but B3 FAR.out;have N3:=hZ (Now.mk hA3 B3);clear hA3)
   | (go_at_call 132;refine m4_ (Y8a F3 HCH.out) fun w4 hb4 hc4 hf4 hs4=>?_))
  have N4:=hZ (N3.out.ext hb4);clear c0 c1 z1 hB3 B3 F3 hb1 hb2 hb4 N3;have c2:=N4.out.len E0.out;have z1:=N4.out.lt;have z2:=N4.out.words.lt;have g:=N4.out.words.get HX.out;obtain ⟨k1,k2,k3,k4⟩:IntKind.i64.wrap (((r:Nat):Int)+3)=((r:Nat):Int)+3/\(0:Int)<=((r:Nat):Int)+3/\((r:Nat):Int)+3 < ((n:Nat):Int)/\(((r:Nat):Int)+3).toNat=r+3:=⟨E4c _ (by omega),by omega,by omega,by omega⟩
  have k5:IntKind.i64.wrap (r:Int)=r:=E4c _ (by omega);refine wp_region_any (by kernel_rfl) ?_;refine' tkB 10 ?_;refine' tkB 11 ?_;have pr4a:=Ext.r c2
  have pr4b:=Ext.r g
  refine B3a (S:=fun W=>Ext w4 W) (R:=Ext) 20 18 Ext.refl ?_ ?_ (by rfl)
  . exact Ext.drew exx
  refine' tkY 0 ?_;refine' tkY 1 ?_;refine' tkY 2 ?_;refine' tkY 3 ?_;refine' tkY 4 ?_;refine' tkY 5 ?_;refine' tkY 6 ?_;refine' tkY 7 ?_;refine' tkY 8 ?_;refine' tkY 9 ?_;refine' tkY 12 ?_;refine' tkY 13 ?_;refine' tkY 14 ?_;refine' tkY 15 ?_;refine' tkY 16 ?_;refine' tkY 17 ?_;refine' tkY 18 ?_;refine' tkY 19 ?_;refine A9a (by kernel_rfl) ?_;intro w5 _ Ew5;clear pr4a pr4b;simp only [v0b,D9c];clear c2 z1 z2 g k1 k2 k3 k4 k5;have N5:=hZ (N4.out.ext Ew5);obtain ⟨y1,hy1⟩:=A4a (l:=W) (j:=r) (by rw [E0.out];exact b1);obtain ⟨y2,hy2⟩:=A4a (l:=W) (j:=r+3) (by rw [E0.out];exact b2);have g1:=N5.out.words.get hy1;have g2:=N5.out.words.get hy2;have f1:=N5.out.words.froz r;have f2:=N5.out.words.froz (r+3);have z2:=N5.out.words.lt;have HB:=N5.out.words.bound HX.out;have hb1:=HB.1;have hb2:=HB.2;clear hy1 hy2 HB;have N6:=hZ ((N5.out.set EW1.out (by omega) (by omega)).set EW2.out hb1 hb2);go_upto_region 9 with (fail)
  refine Now.cut N6.out ?_;clear N6 N5 N4 g1 g2 f1 f2 z2;intro w6 N6';have N6:=hZ N6';clear N6' Ew5;have F6:=HF.out.but N6.out.but FAR.out;obtain ⟨w7,hcp,N7',-⟩:=N6.out.copied F6 h0 EW3.out LCK.out;have hcp':=fun ty=>hcp (n-(r+4)) (d.cap-(r+4)) ty (by omega)
  have N7:=hZ N7';have c2:=N6.out.len E2.out;have z1:=N6.out.lt;clear hcp N7' F6;go_upto_region 10 with (fail)
  clear hcp' c2 z1 N6;have c2:=N7.out.len E3.out;have c3:=N7.out.c3;have z1:=N7.out.lt;refine wp_region_any (by kernel_rfl) ?_;refine' tkB 9 ?_;have pr5a:=Ext.r c2
  have pr5b:=Ext.r c3
  refine B3a (S:=fun W=>Ext w7 W) (R:=Ext) 11 10 Ext.refl ?_ ?_ (by rfl)
  . exact Ext.drew exx
  refine' tkY 0 ?_;refine' tkY 1 ?_;refine' tkY 2 ?_;refine' tkY 3 ?_;refine' tkY 4 ?_;refine' tkY 5 ?_;refine' tkY 6 ?_;refine' tkY 7 ?_;refine' tkY 8 ?_;refine' tkY 10 ?_;refine A9a (by kernel_rfl) ?_;intro w8 _ Ew8;clear pr5a pr5b;simp only [v0b,D9c];clear c2 c3 z1;have N8:=hZ (N7.out.ext Ew8);obtain ⟨y1,hy1⟩:=A4a (l:=W3) (j:=head) (by rw [E3.out];exact b0);have g1:=N8.out.words.get hy1;have f1:=N8.out.words.froz head;have N9:=hZ (N8.out.set EW4.out (by omega) (by omega));have hb1:∀ a' ∈ Hp.Hs.insert r S.taken,a' < n:=fun a' ha'=>by
   rcases (D6a r a' S.taken).1 ha' with rfl | h'
   . omega
   have:=N9.out.below a' h';rw [E4.out] at this;exact this
  obtain ⟨v0,st,x1,x2,hm1,-,hm2,hm3,hm4⟩:=N9.out.map.enter (t:=102) underlying3 underlying4 underlying102 (fun u=>zeroValue4 u) (by have:=N9.out.a1a;have:=N9.out.small;unfold maxLen;omega) (a:=r) (by omega);unfold goInt at hm1 hm2;have N10:=hZ (N9.out.mapped hm4 hm3 (fun a' ha'=>by rw [E4.out];exact hb1 a' ha'));clear hb1 hm3 hm4 hy1;go_upto_region 11 with (fail)
  clear hm1 hm2 g1 f1 N9 N8 N7 Ew8;obtain ⟨t',ht',hkq⟩:=K8a HKS.out;have HT':=hZ ht';have HKQ:=hZ hkq;clear ht' hkq;have K10:=hZ (r9a N10.out.toHAt HT'.out HKS.out)
  go_wp2_with (go_at_call 80;refine m4_ (V5a N10.out.toHAt HT'.out HKS.out) fun w1 hb1 hc1 hf1 hs1=>?_)
  have N11:=hZ (N10.out.ext hb1);generalize hpk:kp d r t'=pk;have HPK:=hZ hpk;have hb4':=HKQ.out;have hks:ks.length<=1000000:=by
   rcases hb4' with ⟨_,rfl⟩ | ⟨_,hf'⟩
   . simp
   obtain ⟨_,q,_,_,h4,h5,_⟩:=H7a hf';have:=N10.out.small;simp only at h5 this;omega
  clear hpk N10 K10 hb1 hc1 hf1 hs1 hb4'
  go_loopg [81] ks.length (fun g i wr=>∃ (j:Nat) (V:List Int),j<=ks.length/\ks.length-j<=g/\i = .int .i64 j/\Hid (Now w wr d { S with words:=V,taken:=Hp.Hs.insert r S.taken })/\Hid (Hp.Hs.use 1 (ks.length-j) (r+4+j) V=some W5)/\Hid (V.length=n))
  case atStart=>exact ⟨0,W4,G9c _,by omega,rfl,N11,EW5,E4⟩
  case round=>
   obtain ⟨j,V,hj,hg,rfl,NV,HU,HV⟩:=hrel;clear N11
   by_cases hlt:j < ks.length
   . obtain rfl:pk=some ⟨d.gw,r+4,none⟩:=by
       rw [<- HPK.out]
       rcases HKQ.out with ⟨_,rfl⟩ | ⟨he,_⟩
       . simp at hlt
       simp [kp,he]
     have hu:=HU.out;rw [show ks.length-j=(ks.length-(j+1))+1 by omega] at hu;obtain ⟨kid,v,V1,h1,h2,h3,h4⟩:=s6a hu;obtain ⟨h2,v1,v2⟩:=S3a h2;have g1:=NV.out.words.get (C6a h1);have g2:=NV.out.words.get h2;have f1:=NV.out.words.froz (kid+1);have c2:=NV.out.len HV.out;have l2:=G0a h2;rw [HV.out] at l2;have NV1:=hZ (NV.out.set h3 (by omega) (by omega));have HV1:=hZ ((HAt.D9a h3).1.trans HV.out);have HU1:=hZ h4;clear hu h1 h2 h3 h4 NV HU HV
     go_wp2_with fail
     go_roundg (ks.length-(j+1))
     case measure=>omega
     case rel=>exact ⟨j+1,V1,by omega,H0c _,by go_num,NV1,HU1,HV1⟩
   have:j=ks.length:=by omega
   subst this;have hu:=HU.out;rw [G1c] at hu;obtain rfl:V=W5:=by simpa [Hp.Hs.use] using hu
   clear hu HU EW5
   go_wp2_with fail
   go_returns;exact NV.out.done
def err8 (a:Nat):Int:=if a=0 then 8 else 0
theorem r1a (a:Nat) (w:World):Calls prog 106 #[.int .i64 a] w (Rt w (.tuple #[.int .i64 a,.int .i64 (err8 a)])):=by
 by_cases h:a=0
 . subst h;go_enter func106,ntmps106;go_wp2
   go_ret2
   exact ⟨rfl,exx⟩
 have t0:((a:Int) == 0)=false:=by simpa using h
 have e:err8 a=0:=H4c h
 rw [e]
 clear h e
 go_enter func106,ntmps106
 go_wp2
 go_ret2
 exact ⟨rfl,exx⟩
theorem C7a (h:HAt w d S):Calls prog 72 #[.pointer (some ⟨d.hb,0,none⟩)] w (Rt w (.bool true)):=by
 have c2:=h.c2
 clear h
 go_enter func72,ntmps72
 go_wp2
 go_returns
 exact ⟨rfl,exx⟩
theorem Q1b (S:Hp.Hs) (x:Int):H9a S.taken (.int .i64 x)=S.has x:=rfl
theorem U9a (h:HAt w d S) {b:Bool} (hb:S.has x=b) (h1 : -9223372036854775808<=x) (h2:x<=9223372036854775807) :
    (Instr.lookup 102 (.map (some d.gm)) (.int .i64 x) false).run prog w = .ok (.bool b) w:=by
  rw [<- hb,<- Q1b];exact h.map.look underlying3 underlying4 underlying102 (zeroValue4 w) h1 h2
theorem X7a (h:HAt w d S) {b:Bool} (hb:S.has x=b) (h1 : -9223372036854775808<=x) (h2:x<=9223372036854775807) :
    Calls prog 128 #[.pointer (some ⟨d.hb,0,none⟩),.int .i64 x] w (Rt w (.bool b)):=by
  have hl:=U9a h hb h1 h2;have c3:=h.c3;clear h hb;go_enter func128,ntmps128;go_wp2;go_returns;exact ⟨rfl,exx⟩
theorem t1a (h:HAt w d S) (hb:S.has x=true) (h1 : -9223372036854775808<=x) (h2:x<=9223372036854775807) :
    Calls prog 77 #[.pointer (some ⟨d.hb,0,none⟩),.int .i64 x] w (Rt w (.int .i64 0)):=by
  have H:=hZ h;have HB:=hZ hb;clear h hb;go_enter func77,ntmps77
  go_wp2_with (go_at_call 72;refine m4_ (C7a H.out) fun w1 hb1 hc1 hf1 hs1=>?_;have c3:=(H.out.ext hb1).c3;have hl:=U9a (H.out.ext hb1) HB.out h1 h2)
  go_returns;exact ⟨rfl,exx⟩
theorem p0b (h:HAt w d S) (hb:S.has x=false) (h1 : -9223372036854775808<=x) (h2:x<=9223372036854775807) :
    Calls prog 77 #[.pointer (some ⟨d.hb,0,none⟩),.int .i64 x] w (Rt w (.int .i64 7)):=by
  have H:=hZ h;have HB:=hZ hb;clear h hb;go_enter func77,ntmps77
  go_wp2_with (go_at_call 72;refine m4_ (C7a H.out) fun w1 hb1 hc1 hf1 hs1=>?_;have c3:=(H.out.ext hb1).c3;have hl:=U9a (H.out.ext hb1) HB.out h1 h2)
  go_returns;exact ⟨rfl,exx⟩
theorem c3b {e0:Int} (h:HAt w d S) (hr:S.hold x=some (e0,S')) (h1 : -9223372036854775808<=x) (h2:x<=9223372036854775807) :
    Calls prog 53 #[.pointer (some ⟨d.hb,0,none⟩),.int .i64 x] w (Turned d w (.int .i64 e0) S'):=by
  have H:=hZ (Now.refl h);clear h;unfold Hp.Hs.hold at hr
  cases hb:S.has x with
  | false=>
   rw [H5c hb] at hr;simp only [z7b,F1c] at hr;obtain ⟨rfl,rfl⟩:=hr;have HB:=hZ hb;clear hb;go_enter func53,ntmps53
   go_wp2_with (go_at_call 77;refine m4_ (p0b H.out.toHAt HB.out h1 h2) fun w1 hb1 hc1 hf1 hs1=>?_)
   go_returns;exact (H.out.ext hb1).done
  | true=>
   have hx0:0<=x:=by
    unfold Hp.Hs.has at hb;simp at hb;exact hb.1
   obtain ⟨a,rfl⟩:=Int.eq_ofNat_of_zero_le hx0;have HB:=hZ hb;rw [H4c (by rw [hb];simp)] at hr;simp only [v9b,s0b,C9c,z7b,F1c,z5b] at hr;obtain ⟨v,hv,W,hW,rfl,rfl⟩:=hr;obtain ⟨hv,v1,v2⟩:=S3a hv;have hl:=G0a hv;have HV:=hZ hv;have HW:=hZ hW;have sm:=H.out.small;clear hb hv hW hx0 h1 h2;go_enter func53,ntmps53
   go_wp2_with (go_at_call 77;refine m4_ (t1a H.out.toHAt HB.out (by omega) (by omega)) fun w1 hb1 hc1 hf1 hs1=>?_;have N1:=hZ (H.out.ext hb1);have c2:=N1.out.c2;have g:=N1.out.words.get HV.out;have f:=N1.out.words.froz (a+2))
   go_returns;exact (N1.out.set HW.out (by omega) (by omega)).done
def Says (w:World) (g:Nat) (first cap:Array Value) (l:List Int) (q:Int->Bool):Prop:=
 ∀ (j:Nat) (x:Int),Hp.rd l j=some x->(∀ i y,i < j->Hp.rd l i=some y->q y=false) -> ∀ W,Ext w W->Calls prog g (first ++ #[.int .i64 x] ++ cap) W fun e w'=>e = .returned (.bool (q x))/\Ext W w'
def Y1a (q:Int->Bool) (l:List Int):Int:=match l.findIdx? q with | some i=>i | none=>-1
theorem B1b {q:Int->Bool} (hk:Hp.rd l k=some x) (hq:q x=true) (h:∀ i y,i < k->Hp.rd l i=some y->q y=false):Y1a q l=k:=by
 have e:l.findIdx? q=some k:=by
  rw [p4b];unfold Hp.rd at hk h;obtain ⟨hl,he⟩:=q5b.1 hk;exact ⟨hl,by rw [he];exact hq,fun j hj=>by rw [h j _ hj (r1b (by omega))];simp⟩
 simp [Y1a,e]
theorem w6a {q:Int->Bool} (h:∀ i y,i < l.length->Hp.rd l i=some y->q y=false):Y1a q l = -1:=by
 have e:l.findIdx? q=none:=by
  rw [q7b];intro y hy;obtain ⟨j,hj,rfl⟩:=u9b hy;exact h j _ hj (r1b hj)
 simp [Y1a,e]
theorem A8b (q:Int->Bool) (l:List Int):decide (0<=Y1a q l)=l.any q:=by
 unfold Y1a
 cases h:l.findIdx? q with
 | none=>
  have:=q7b.1 h;simp only [show ¬ (0:Int) <= -1 by omega,decide_false]
  symm
  rw [List.any_eq_false];intro x hx;rw [this x hx];simp
 | some i=>
  obtain ⟨hl,hq,_⟩:=p4b.1 h;simp only [x5b,decide_true]
  symm
  rw [B2c];exact ⟨l[i],A4c _,hq⟩
theorem l4a {cap:Array Value} {q:Int->Bool} (eg:∀ args w,(callFunc g args).run prog w = .ok (.enter g args) w) (h:SliceAt w p c l) (hs:Says w g #[] cap l q) :
    Calls prog 186 #[.slice p l.length c,.func (.func g) #[] cap] w (Rt w (.int .i64 (Y1a q l))):=by
  have hle:=h.le;have hcap:=h.cap;have H:=hZ h;have HS:=hZ hs;clear h hs;generalize hL:l.length=n at hle ⊢;have HL:=hZ hL;clear hL;go_enter func186,ntmps186;go_wp2
  go_loopg [8] n (fun gg s8 wr=>∃ kk:Nat,kk<=n/\n-kk<=gg/\s8 = .int .i64 kk/\Aside (Ext w wr)/\Aside (∀ i y,i < kk->Hp.rd l i=some y->q y=false))
  case atStart=>exact ⟨0,G9c _,by omega,rfl,Ext.refl w,fun i y hi=>absurd hi (D0c _)⟩
  case round=>
   obtain ⟨kk,hkk,hg,rfl,E,A⟩:=hrel
   by_cases hlt:kk < n
   . obtain ⟨x,hx⟩:=A4a (l:=l) (j:=kk) (by rw [HL.out];exact hlt);obtain ⟨b,o,rfl,hb,hc⟩:=(H.out.ext E.out).cells (by rw [HL.out];omega);have g1:=hc kk x hx;have hcall:=hZ (HS.out kk x hx A.out wr E.out);have HX:=hZ hx;clear hc hx
     cases hq:q x with
     | true=>
      have HQ:=hZ hq;clear hq
      go_wp2_with (go_at_fn g;refine (Calls.mono hcall.out ?_);rintro e w' ⟨rfl,hb'⟩;rw [HQ.out])
      go_returns;exact ⟨by rw [B1b HX.out HQ.out A.out];rfl,E.out.trans hb'⟩
     | false=>
      have HQ:=hZ hq;clear hq
      go_wp2_with (go_at_fn g;refine (Calls.mono hcall.out ?_);rintro e w' ⟨rfl,hb'⟩;rw [HQ.out])
      go_roundg (n-(kk+1))
      case measure=>omega
      case rel=>
       refine ⟨kk+1,by omega,by omega,by go_num,(show Aside _ from E.out.trans hb'),(show Aside _ from fun i y hi hy=>?_)⟩
       by_cases e:i=kk
       . subst e;have:=HX.out;rw [hy] at this
         cases this
         exact HQ.out
       exact A.out i y (by omega) hy
   have:kk=n:=by omega
   subst this;go_wp2;go_returns;exact ⟨by rw [w6a (by rw [HL.out];exact A.out)];rfl,E.out⟩
theorem J7a {cap:Array Value} {q:Int->Bool} {b:Bool} (eg:∀ args w,(callFunc g args).run prog w = .ok (.enter g args) w) (h:SliceAt w p c l) (hs:Says w g #[] cap l q) (hb:l.any q=b) :
    Calls prog 167 #[.slice p l.length c,.func (.func g) #[] cap] w (Rt w (.bool b)):=by
  rw [<- A8b] at hb;have H:=hZ h;have HS:=hZ hs;have EG:=hZ eg;clear h hs eg;subst hb;go_enter func167,ntmps167
  go_wp2_with (go_at_call 186;refine m4_ (l4a EG.out H.out HS.out) fun w1 hb1 hc1 hf1 hs1=>?_)
  go_returns;exact ⟨rfl,exx⟩
theorem M5b {first cap:Array Value} {b:Bool} (eg:∀ args w,(callFunc g args).run prog w = .ok (.enter g args) w) (hc:w.cell? ⟨bx,0,none⟩=some (.func (.func g) first cap))
    (hs:Calls prog g (first ++ #[.int .i64 x] ++ cap) w (Rt w (.bool b))) :
    Calls prog 168 #[.int .i64 x,.pointer (some ⟨bx,0,none⟩)] w (Rt w (.bool (!b))):=by
  have HS:=hZ hs;clear hs;go_enter func168,ntmps168
  go_wp2_with (go_at_fn g;refine (Calls.mono HS.out ?_);rintro e w' ⟨rfl,hb'⟩)
  go_returns;exact ⟨rfl,hb'⟩
def X9a (w:World) (g:Nat) (first cap:Array Value) (l:List Int) (is:Int->Bool):Prop:=
 ∀ (j:Nat) (x:Int),Hp.rd l j=some x->(∀ i y,i < j->Hp.rd l i=some y->is y=true) -> ∀ W,Ext w W->Calls prog g (first ++ #[.int .i64 x] ++ cap) W fun e w'=>e = .returned (.bool (is x))/\Ext W w'
theorem C3b (l:List Int) (is:Int->Bool):l.all is = !(l.any fun x=>!is x):=by
 induction l with
 | nil=>rfl
 | cons a r ih=>simp [E8c,List.any_cons,ih]
theorem I0a {first cap:Array Value} {is:Int->Bool} {b:Bool} (eg:∀ args w,(callFunc g args).run prog w = .ok (.enter g args) w) (h:SliceAt w p c l) (hs:X9a w g first cap l is) (hb:l.all is=b) :
    Calls prog 124 #[.slice p l.length c,.func (.func g) first cap] w (Rt w (.bool b)):=by
  rw [C3b] at hb;have key:∀ t,Says (w.alloc (.cells #[.func (.func g) first cap] t)) 168 #[] #[.pointer (some ⟨w.heap.size,0,none⟩)] l (fun x=>!is x):=by
   intro t j x hx hall W hW;have hlt:w.heap.size < (w.alloc (.cells #[.func (.func g) first cap] t)).heap.size:=by simp
   have hc:W.cell? ⟨w.heap.size,0,none⟩=some (.func (.func g) first cap):=by
    rw [hW.cell hlt 0];have:=s8b w #[.func (.func g) first cap] t (0,0) 0;rw [this];rfl
   have:=M5b eg hc (hs j x hx (fun i y hi hy=>by simpa using hall i y hi hy) W ((Ext.alloc (Ext.refl w) _).trans hW))
   simpa using this
  have H:=hZ h;have K:=hZ key;clear h hs eg key;subst hb;go_enter func124,ntmps124
  go_wp2_with (go_at_call 167;refine m4_ (J7a (b:=l.any fun x=>!is x) (enters_of func168 (by kernel_rfl) rfl) (H.out.ext (Ext.alloc (Ext.refl w) _)) (K.out _) rfl) fun w1 hb1 hc1 hf1 hs1=>?_)
  go_returns;exact ⟨rfl,exx⟩
theorem N0b {y:Int} (hc:w.cell? ⟨bx,0,none⟩=some (.slice p l.length c)) (h:SliceAt w p c l) (hy:Hp.rd l 0=some y) :
    Calls prog 159 #[.int .i64 x,.pointer (some ⟨bx,0,none⟩)] w (Rt w (.bool (x == y))):=by
  obtain ⟨b,o,rfl,hb,hx⟩:=h.cells (by have:=G0a hy;omega);have g:=hx 0 y hy;have h0:=G0a hy;have hcap:=h.cap;have hle:=h.le;clear h hx hy;generalize l.length=n at *;simp only [G0c] at g;go_enter func159,ntmps159;go_wp2;go_returns;exact ⟨rfl,exx⟩
theorem f5b {y:Int} (hy:Hp.rd l 0=some y):l.all (fun x=>x == y)=Hp.Hs.alike l:=by
 cases l with
 | nil=>cases hy
 | cons a r=>
  have:a=y:=by simpa [Hp.rd] using hy
  subst this;rfl
theorem alike_any {b:Bool} (h:SliceAt w p c l) (h0:0 < l.length) (hb:Hp.Hs.alike l=b) :
    Calls prog 109 #[.slice p l.length c] w (Rt w (.bool b)):=by
  obtain ⟨y,hy⟩:=A4a h0;rw [<- f5b hy] at hb;have key:∀ t,X9a (w.alloc (.cells #[.slice p l.length c] t)) 159 #[] #[.pointer (some ⟨w.heap.size,0,none⟩)] l (fun x=>x == y):=by
   intro t j x hx _ W hW;have hlt:w.heap.size < (w.alloc (.cells #[.slice p l.length c] t)).heap.size:=by simp
   have hc:W.cell? ⟨w.heap.size,0,none⟩=some (.slice p l.length c):=by
    rw [hW.cell hlt 0];have:=s8b w #[.slice p l.length c] t (0,0) 0;rw [this];rfl
   have:=N0b (x:=x) hc (h.ext ((Ext.alloc (Ext.refl w) _).trans hW)) hy
   simpa using this
  have H:=hZ h;have K:=hZ key;have HB:=hZ hb;clear h key hy hb;go_enter func109,ntmps109
  go_wp2_with (go_at_call 124;refine m4_ (I0a (enters_of func159 (by kernel_rfl) rfl) (H.out.ext (Ext.alloc (Ext.refl w) _)) (K.out _) HB.out) fun w1 hb1 hc1 hf1 hs1=>?_)
  go_returns;exact ⟨rfl,exx⟩
def isL (S:Hp.Hs) (choice x:Int):Bool:=match (do Hp.ck (<- S.tag (<- Hp.adr x)):Option Int) with
 | some t=>decide (Hp.rank S.order t > Hp.rank S.order (choice+1))
 | none=>false
theorem X4a {S:Hp.Hs} {choice:Int}:∀ {l:List Int} {b:Bool},S.d7a choice l=some b->l.all (isL S choice)=b /\
    ∀ (j:Nat) (x:Int),Hp.rd l j=some x->(∀ i y,i < j->Hp.rd l i=some y->isL S choice y=true) -> ∃ (a:Nat) (t:Int),x=a/\S.tag a=some t /\ -4611686018427387904 < t/\t < 4611686018427387904
  | [],b,h=>by
   simp only [Hp.Hs.d7a,z7b] at h;subst h;exact ⟨rfl,fun j x hx=>by cases hx⟩
  | k :: r,b,h=>by
   simp only [Hp.Hs.d7a,v9b,s0b] at h;obtain ⟨a,ha,t,ht,t',ht',h⟩:=h;have e:isL S choice k=decide (Hp.rank S.order t' > Hp.rank S.order (choice+1)):=by simp [isL,ha,ht,ht']
   obtain ⟨rfl,h1,h2⟩:=J4a ht';have hka:=Z8a ha
   split at h
   . rename_i hr;obtain ⟨i1,i2⟩:=X4a h;have ek:isL S choice k=true:=by rw [e];exact E5c hr
     refine ⟨by rw [E8c,ek,i1];rfl,fun j x hx hall=>?_⟩
     cases j with
     | zero=>
      have:k=x:=by simpa [Hp.rd] using hx
      subst this;exact ⟨a,t',hka,ht,h1,h2⟩
     | succ j=>exact i2 j x (by simpa [Hp.rd] using hx) (fun i y hi hy=>hall (i+1) y (by omega) (by simpa [Hp.rd] using hy))
   rename_i hr;have ek:isL S choice k=false:=by rw [e];exact D7c hr
   simp only [z7b] at h;subst h;refine ⟨by rw [E8c,ek];rfl,fun j x hx hall=>?_⟩
   cases j with
   | zero=>
    have:k=x:=by simpa [Hp.rd] using hx
    subst this;exact ⟨a,t',hka,ht,h1,h2⟩
   | succ j=>
    have:=hall 0 k (by omega) rfl;rw [ek] at this
    cases this
theorem isL_eq (ht:S.tag a=some t) (h1 : -4611686018427387904 < t) (h2:t < 4611686018427387904):isL S choice a=decide (Hp.rank S.order t > Hp.rank S.order (choice+1)):=by
 have e:Hp.adr (a:Int)=some a:=by simp [Hp.adr]
 have e2:Hp.ck t=some t:=by simp [Hp.ck,h1,h2]
 simp [isL,e,ht,e2]
theorem l6a {by':Nat} (h:HAt w d S) (hx:w.cell? ⟨bx,0,none⟩=some (.pointer (some ⟨d.hb,0,none⟩))) (hy:w.cell? ⟨by',0,none⟩=some (.int .i64 choice)) (hc1 : -1<=choice) (hc2:choice<=1000000)
    (ht:S.tag a=some t) (h1 : -4611686018427387904 < t) (h2:t < 4611686018427387904) :
    Calls prog 158 #[.int .i64 a,.pointer (some ⟨bx,0,none⟩),.pointer (some ⟨by',0,none⟩)] w (Rt w (.bool (isL S choice a))):=by
  rw [isL_eq ht h1 h2];have zx:=cell_lt hx;have zy:=cell_lt hy;have z1:=h.lt;have c0:=h.c0;have c1:=h.c1;have H:=hZ h;have HT:=hZ ht;clear h ht;have e1:IntKind.i64.wrap (choice+1)=choice+1:=E4c _ (by omega);generalize hr1:Hp.rank S.order t=r1;generalize hr2:Hp.rank S.order (choice+1)=r2;have HR1:=hZ hr1;have HR2:=hZ hr2;clear hr1 hr2;go_enter func158,ntmps158
  go_wp2_with fail
  have pr6a:=Ext.r hx;have pr6b:=Ext.r hy;have pr6c:=Ext.r c0;have pr6d:=Ext.r c1
  refine rg0 w ?_
  refine' tkd 0 ?_;refine' tkd 2 ?_;refine' tkd 4 ?_;refine' tkC 6 (.int .i64 t) 76 (fun w hE=>F4a (H.out.ext hE).c2 rfl H.out.le H.out.cap (H.out.ext hE).words HT.out) ?_;refine' tkC 7 (.int .i64 r1) 126 (fun w hE=>(HR1.out ▸ f7a (H.out.ext hE).order (by omega) (by omega))) ?_;refine' tkd 8 ?_;refine' tkd 10 ?_;refine' tkd 12 ?_;refine' tkC 14 (.int .i64 r2) 126 (fun w hE=>(HR2.out ▸ f7a (H.out.ext hE).order (by omega) (by omega))) ?_;refine' tkd 15 ?_;refine A0a (by kernel_rfl) ?_ _;intro x1 _ Ex1;clear pr6a pr6b pr6c pr6d;go_wp2;go_returns;exact ⟨rfl,exx⟩
theorem J2b {W:World} {b:Bool} {by':Nat} (h:HAt w d S) (hx:w.cell? ⟨bx,0,none⟩=some (.pointer (some ⟨d.hb,0,none⟩))) (hy:w.cell? ⟨by',0,none⟩=some (.int .i64 choice)) (hc1 : -1<=choice) (hc2:choice<=1000000)
    (hl:S.d7a choice l=some b) (hW:Ext w W):X9a W 158 #[] #[.pointer (some ⟨bx,0,none⟩),.pointer (some ⟨by',0,none⟩)] l (isL S choice):=by
  intro j x hjx hall W' hW';obtain ⟨a,t,rfl,ht,h1,h2⟩:=(X4a hl).2 j x hjx hall;have E:=hW.trans hW';have:=l6a (h.ext E) (E.q hx) (E.q hy) hc1 hc2 ht h1 h2
  simpa using this
theorem t5a (h:HAt w d S) (hwf:∀ x ∈ l,-9223372036854775808<=x/\x<=9223372036854775807):X9a w 128 #[.pointer (some ⟨d.hb,0,none⟩)] #[] l S.has:=by
 intro j x hjx _ W hW
 have hb:=hwf x (u1b hjx)
 have:=X7a (h.ext hW) (x:=x) rfl hb.1 hb.2
 simpa using this
theorem H4b (h:HAt w d S) {n:Int} (hn:Hp.rd S.sizes i=some n):1<=n/\n<=12:=h.pos n (u1b hn)
theorem h6a (p:Value) (h:HAt w d S) (hc1 : -9223372036854775808<=choice) (hc2:choice<=9223372036854775807) (hr:Hp.within 0 (S.sizes.length-1) choice=false) :
    Calls prog 108 #[.pointer (some ⟨d.hb,0,none⟩),.int .i64 choice,p] w (Rt w (.int .i64 3)):=by
  have hle:=h.sizes.le;have hcap:=h.sizes.cap;have H:=hZ h;have HR:=hZ hr;clear h hr;have e1:IntKind.i64.wrap ((S.sizes.length:Int)-1)=(S.sizes.length:Int)-1:=E4c _ (by omega);go_enter func108,ntmps108;go_upto_region 4 with (go_at_call 72;refine m4_ (C7a (H.out.ext (exx))) fun w1 hb1 hc1 hf1 hs1=>?_;obtain ⟨hz1_0,hc1_0,hf1_0⟩:=c3_ hb1 w.heap.size;obtain ⟨hz1_1,hc1_1,hf1_1⟩:=c3_ hb1 (w.heap.size+1))
  have N1:=hZ (H.out.ext (exx:Ext w w1));have c0:=N1.out.c0;have z0:=N1.out.lt;have ca:w1.cell? ⟨w.heap.size,0,none⟩=some (.pointer (some ⟨d.hb,0,none⟩)):=by rw [hc1_0];go_simp
  have cb:w1.cell? ⟨w.heap.size+1,0,none⟩=some (.int .i64 choice):=by rw [hc1_1];go_simp
  have pr7a:=Ext.r c0;have pr7b:=Ext.r ca;have pr7c:=Ext.r cb
  refine rg0 w1 ?_
  refine' tkd 0 ?_;refine' tkd 2 ?_;refine' tkd 4 ?_;refine' tkd 6 ?_;refine' tkC 8 (.bool false) 105 (fun w hE=>(HR.out ▸ E5a 0 ((S.sizes.length:Int)-1) choice _)) ?_;refine' tkd 9 ?_;refine A0a (by kernel_rfl) ?_ _;intro x1 _ Ex1;clear pr7a pr7b pr7c
  go_wp2_with fail
  go_returns;exact ⟨rfl,exx⟩
theorem n2a {c:Int} (h:Hp.within 0 ((n:Int)-1) c=true):∃ i:Nat,c=i/\i < n:=by
 unfold Hp.within at h
 simp only [B8c,A1c] at h
 exact ⟨c.toNat,by omega,by omega⟩
theorem R3a {e0:Int} (h:HAt w d S) (hs:SliceAt w p c l) (hc1 : -9223372036854775808<=choice) (hc2:choice<=9223372036854775807) (hr:S.D0a choice l=some e0) :
    Calls prog 108 #[.pointer (some ⟨d.hb,0,none⟩),.int .i64 choice,.slice p l.length c] w (Rt w (.int .i64 e0)):=by
  unfold Hp.Hs.D0a at hr
  cases hw:Hp.within 0 ((S.sizes.length:Int)-1) choice with
  | false=>
   rw [H5c hw] at hr
   cases hr
   exact h6a _ h hc1 hc2 hw
  | true=>
   rw [H4c (by rw [hw];simp)] at hr;obtain ⟨i,rfl,hi⟩:=n2a hw;simp only [v9b,s0b,z5b] at hr;obtain ⟨n,hn,hr⟩:=hr;have hle:=h.sizes.le;have hcap:=h.sizes.cap;have hle':=hs.le;have sm:=h.few;have hcap':=hs.cap;have hsz:=H4b h hn;obtain ⟨b,o,hsp,hbl,hcell⟩:=h.sizes.cells (by omega);have gi:=hcell i n hn;have HSP:=hZ hsp;have H:=hZ h;have HS:=hZ hs;have HW:=hZ hw;have HR:=hZ hr;clear h hs hw hr hn hcell hsp hc1 hc2;have e1:IntKind.i64.wrap ((S.sizes.length:Int)-1)=(S.sizes.length:Int)-1:=E4c _ (by omega);have i1:(0:Int)<=(i:Int):=by omega
   have i2:(i:Int) < (S.sizes.length:Int):=by omega
   go_enter func108,ntmps108;go_upto_region 4 with (go_at_call 72;refine m4_ (C7a (H.out.ext (exx))) fun w1 hb1 hc1 hf1 hs1=>?_;obtain ⟨hz1_0,hc1_0,hf1_0⟩:=c3_ hb1 w.heap.size;obtain ⟨hz1_1,hc1_1,hf1_1⟩:=c3_ hb1 (w.heap.size+1))
   have E1:Ext w w1:=exx;have N1:=hZ (H.out.ext E1);have c0:=N1.out.c0;rw [HSP.out] at c0;have z0:=N1.out.lt;have ca:w1.cell? ⟨w.heap.size,0,none⟩=some (.pointer (some ⟨d.hb,0,none⟩)):=by rw [hc1_0];go_simp
   have cb:w1.cell? ⟨w.heap.size+1,0,none⟩=some (.int .i64 i):=by rw [hc1_1];go_simp
   have zb:b < w1.heap.size:=x4b hbl E1.le;have gi':=E1.q gi;have pr8a:=Ext.r c0
   have pr8b:=Ext.r ca;have pr8c:=Ext.r cb
   refine rg0 w1 ?_
   refine' tkd 0 ?_;refine' tkd 2 ?_;refine' tkd 4 ?_;refine' tkd 6 ?_;refine' tkC 8 (.bool true) 105 (fun w hE=>(HW.out ▸ E5a 0 ((S.sizes.length:Int)-1) i _)) ?_;refine' tkd 9 ?_;refine A0a (by kernel_rfl) ?_ _;intro x1 _ Ex1;clear pr8a pr8b pr8c;go_upto_region 6 with (fail)
   have pr9a:=fun u_ (h_:Ext x1 u_)=>((Ext.trans Ex1 h_).cell z0 0).trans c0
   have pr9b:=fun u_ (h_:Ext x1 u_)=>((Ext.trans Ex1 h_).cell hz1_0 0).trans ca
   have pr9c:=fun u_ (h_:Ext x1 u_)=>((Ext.trans Ex1 h_).cell hz1_1 0).trans cb
   have pr9d:=fun u_ (h_:Ext x1 u_)=>((Ext.trans Ex1 h_).cell zb (o+i)).trans gi'
   refine rg0 x1 ?_
   refine' tkd 0 ?_;refine' tkd 2 ?_;refine' tkd 4 ?_;refine' tkd 6 ?_;refine' tkd 8 ?_;refine' tkd 10 ?_;refine A0a (by kernel_rfl) ?_ _;intro x2 _ Ex2;clear pr9a pr9b pr9c pr9d;have E2:=E1.trans (Ex1.trans Ex2);have E12:=Ex1.trans Ex2;have hr:=HR.out
   by_cases hlen:(l.length:Int)=n
   case neg=>
    rw [H5c hlen] at hr
    cases hr
    have t0:((l.length:Int) != n)=true:=by simpa using hlen
    clear hlen
    go_wp2_with fail
    go_returns;exact ⟨rfl,E2⟩
   case pos=>
    rw [H4c (by rw [hlen];simp)] at hr;have t0:((l.length:Int) != n)=false:=by simpa using hlen
    have ca2:=E12.q ca;have cb2:=E12.q cb;have N2:=hZ (H.out.ext E2);have S2:=hZ (HS.out.ext E2)
    cases hh:l.all S.has with
    | false=>
     rw [H5c hh] at hr
     cases hr
     have HH:=hZ hh;clear hlen hh
     go_wp2_with (go_at_call 124;refine m4_ (I0a (enters_of func128 (by kernel_rfl) rfl) S2.out (t5a N2.out S2.out.wf) HH.out) fun w3 hb3 hc3 hf3 hs3=>?_)
     go_returns;exact ⟨rfl,E2.trans hb3⟩
    | true=>
     rw [H4c (by rw [hh];simp)] at hr;simp only [s0b] at hr;obtain ⟨lb,hlb,hr⟩:=hr;have HH:=hZ hh;have LB:=hZ hlb;have LA:=hZ (X4a hlb).1;clear hlen hh hlb;have CA2:=hZ ca2;have CB2:=hZ cb2
     cases lb with
     | false=>
      rw [H5c rfl] at hr
      cases hr
      go_upto_region 10 with (go_at_call 124;refine m4_ (I0a (enters_of func128 (by kernel_rfl) rfl) S2.out (t5a N2.out S2.out.wf) HH.out) fun w3 hb3 hc3 hf3 hs3=>?_)
      go_wp2_with (go_at_call 124;refine m4_ (I0a (enters_of func158 (by kernel_rfl) rfl) (S2.out.ext hb3) (J2b N2.out CA2.out CB2.out (by omega) (by omega) LB.out hb3) LA.out) fun w4 hb4 hc4 hf4 hs4=>?_)
      go_returns;exact ⟨rfl,E2.trans (hb3.trans hb4)⟩
     | true=>
      rw [H4c (by simp)] at hr
      cases hr
      go_upto_region 10 with (go_at_call 124;refine m4_ (I0a (enters_of func128 (by kernel_rfl) rfl) S2.out (t5a N2.out S2.out.wf) HH.out) fun w3 hb3 hc3 hf3 hs3=>?_)
      go_wp2_with (go_at_call 124;refine m4_ (I0a (enters_of func158 (by kernel_rfl) rfl) (S2.out.ext hb3) (J2b N2.out CA2.out CB2.out (by omega) (by omega) LB.out hb3) LA.out) fun w4 hb4 hc4 hf4 hs4=>?_)
      go_returns;exact ⟨rfl,E2.trans (hb3.trans hb4)⟩
open Go.RowKit Go.Maps
def J2a (M:List (Nat × Int)):DataW Unit:=.map (M.map fun p:Nat × Int=>(Lit.int .i64 (p.1:Int),DataW.lit (.int .i64 p.2)))
def getI (k:Nat):List (Nat × Int)->Option Int
 | []=>none
 | (a,v) :: r=>if a=k then some v else getI k r
def putI (k:Nat) (x:Int):List (Nat × Int)->List (Nat × Int)
 | []=>[(k,x)]
 | (a,v) :: r=>if k < a then (k,x) :: (a,v) :: r else if k=a then (k,x) :: r else (a,v) :: putI k x r
def J6a (M:List (Nat × Int)):Prop:=M.Pairwise fun p q=>p.1 < q.1
theorem M4a {j k:Nat} {x:Int}:∀ {M:List (Nat × Int)},J6a M->getI j (putI k x M)=if j=k then some x else getI j M
 | [],_=>by
  unfold putI getI
  by_cases h:j=k
  . subst h;simp
  rw [H4c (fun e=>h e.symm),H4c h];rfl
 | (a,v) :: r,h=>by
  obtain ⟨h1,h2⟩:=w3b.1 h;unfold putI
  split
  . rename_i hlt
    by_cases hj:j=k
    . subst hj;simp [getI]
    simp only [getI,H4c hj,H4c (fun e=>hj (Eq.symm e):¬ k=j)]
  rename_i hlt
  split
  . rename_i he;subst he
    by_cases hj:j=k
    . subst hj;simp [getI]
    simp only [getI,H4c hj,H4c (fun e=>hj (Eq.symm e):¬ k=j)]
  rename_i hne;simp only [getI];rw [M4a h2]
  by_cases hj:j=k
  . subst hj;rw [H4c (fun e=>hne (Eq.symm e):¬ a=j),H5c rfl];simp
  rw [H4c hj,H4c hj]
theorem t4a {k:Nat} {x:Int}:∀ {M:List (Nat × Int)} {p:Nat × Int},p ∈ putI k x M->p.1=k \/ ∃ q ∈ M,q.1=p.1
 | [],p,h=>by
  have:p=(k,x):=by simpa [putI] using h
  subst this;exact .inl rfl
 | (a,v) :: r,p,h=>by
  unfold putI at h
  split at h
  . rcases E6c.1 h with rfl | h
    . exact .inl rfl
    exact .inr ⟨p,h,rfl⟩
  split at h
  . rcases E6c.1 h with rfl | h
    . exact .inl rfl
    exact .inr ⟨p,by simp [h],rfl⟩
  rcases E6c.1 h with rfl | h
  . exact .inr ⟨(a,v),by simp,rfl⟩
  rcases t4a h with h | ⟨q,hq,e⟩
  . exact .inl h
  exact .inr ⟨q,by simp [hq],e⟩
theorem M6a {k:Nat} {x:Int}:∀ {M:List (Nat × Int)},J6a M->J6a (putI k x M)
 | [],_=>by simp [putI,J6a]
 | (a,v) :: r,h=>by
  obtain ⟨h1,h2⟩:=w3b.1 h;unfold putI
  split
  . rename_i hlt;refine w3b.2 ⟨fun q hq=>?_,h⟩
    rcases E6c.1 hq with rfl | hq
    . exact hlt
    exact Nat.lt_trans hlt (h1 q hq)
  split
  . rename_i he;subst he;exact w3b.2 ⟨fun q hq=>h1 q hq,h2⟩
  rename_i hlt hne;refine w3b.2 ⟨fun q hq=>?_,M6a h2⟩
  rcases t4a hq with e | ⟨q',hq',e⟩
  . simp only [e];omega
  have:=h1 q' hq';simp only at this ⊢;omega
theorem I3b {k:Nat} {v:Int}:∀ {M:List (Nat × Int)},getI k M=some v -> ∃ p ∈ M,p.1=k
 | [],h=>by cases h
 | (a,u) :: r,h=>by
  unfold getI at h
  split at h
  . rename_i e;exact ⟨(a,u),by simp,e⟩
  obtain ⟨p,hp,e⟩:=I3b h;exact ⟨p,by simp [hp],e⟩
theorem w9a (h:J6a M):Maps.Canon (J2a M):=by
 refine ⟨_,rfl, ?_, ?_⟩
 . rw [y9b];exact h.imp (fun {a b} hab=>by simpa [Lit.before] using hab)
 intro p hp
 obtain ⟨k,_,rfl⟩:=F7c.1 hp
 trivial
theorem D1b (M:List (Nat × Int)):Maps.size (J2a M)=M.length:=by simp [J2a,Maps.size_eq]
theorem a7a (M:List (Nat × Int)) (k:Nat) (z:DataW Unit):(J2a M).atKey (.int .i64 k) z=(match getI k M with | some v=>.lit (.int .i64 v) | none=>z):=by
 unfold J2a DataW.atKey
 simp only
 induction M with
 | nil=>rfl
 | cons p r ih=>
  obtain ⟨a,v⟩:=p;rw [E7c,List.find?_cons]
  by_cases e:a=k
  . subst e;simp [Lit.sameKey,getI]
  have hs:(Lit.int .i64 (a:Int)).sameKey (.int .i64 k)=false:=by
   simp [Lit.sameKey];omega
  simp only [hs,getI,H4c e];exact ih
theorem Q0a (M:List (Nat × Int)) (k:Lit):Maps.has (J2a M) k=true ↔ ∃ n:Nat,k = .int .i64 n/\(getI n M).isSome=true:=by
 unfold J2a
 rw [has_eq,B2c]
 constructor
 . rintro ⟨q,hq,hk⟩;obtain ⟨p,hp,rfl⟩:=F7c.1 hq
   cases k
   case int q b=>
    cases q <;> simp [Lit.sameKey] at hk
    subst hk;refine ⟨p.1,rfl, ?_⟩;clear hq
    induction M with
    | nil=>cases hp
    | cons m r ih=>
     obtain ⟨a,v⟩:=m;unfold getI
     by_cases e:a=p.1
     . rw [H5c e];rfl
     rw [H4c e]
     rcases E6c.1 hp with rfl | hp
     . exact absurd rfl e
     exact ih hp
   all_goals simp [Lit.sameKey] at hk
 rintro ⟨n,rfl,hs⟩
 obtain ⟨v,hv⟩:=Option.isSome_iff_exists.1 hs
 obtain ⟨p,hp,rfl⟩:=I3b hv
 exact ⟨_,F7c.2 ⟨p,hp,rfl⟩,by simp [Lit.sameKey]⟩
theorem O9b (hs:J6a M) (a:Nat) (x:Int) (hc:Canon ((J2a M).put (.int .i64 a) (.lit (.int .i64 x)))):(J2a M).put (.int .i64 a) (.lit (.int .i64 x))=J2a (putI a x M):=by
 have key:∀ k,Maps.has ((J2a M).put (.int .i64 a) (.lit (.int .i64 x))) k=Maps.has (J2a (putI a x M)) k:=by
  intro k;apply p5a;rw [Q0a]
  by_cases e:k = .int .i64 a
  . subst e;rw [has_put_same (D:=J2a M) (k:=.int .i64 (a:Int)) ⟨_,rfl⟩ (by exact True.intro)];simp only [true_iff];exact ⟨a,rfl,by rw [M4a hs,H5c rfl];rfl⟩
  rw [has_put_other e,Q0a];constructor
  . rintro ⟨n,rfl,hn⟩;exact ⟨n,rfl,by rw [M4a hs,H4c (fun h=>e (by rw [h]))];exact hn⟩
  rintro ⟨n,rfl,hn⟩;rw [M4a hs,H4c (fun h=>e (by rw [h]))] at hn;exact ⟨n,rfl,hn⟩
 refine Maps.ext hc (w9a (M6a hs)) key (fun k z hk=>?_)
 rw [key,Q0a] at hk
 obtain ⟨n,rfl,hn⟩:=hk
 rw [a7a,M4a hs]
 by_cases e:n=a
 . subst e;rw [H5c rfl];exact atKey_put_same (k:=.int .i64 (n:Int)) ⟨_,rfl⟩ (by exact True.intro) _ _
 rw [H4c e,atKey_put_other (fun h=>e (by cases h;rfl)),a7a]
structure G4a (P:Program) (w:World) (g:Nat) (M:List (Nat × Int)):Prop where
 owns:w.ownsMap P 3 (plainElem (H:=Unit) P 3) g M.length (J2a M)
 up:J6a M
namespace G4a
variable {P:Program} {w w':World} {g:Nat} {M:List (Nat × Int)} {t:TypeId}
theorem lt (h:G4a P w g M):g < w.heap.size:=h.owns.lt
theorem F9a (h:G4a P w g M) (e:w'.heap[g]? = w.heap[g]?):G4a P w' g M:=by
 refine ⟨?_,h.up⟩
 obtain ⟨es,clock,hb,r⟩:=h.owns
 exact ⟨es,clock,e.trans hb,r⟩
theorem but (h:G4a P w g M) {l:List Nat} (k:But l w w') (hg:g ∉ l):G4a P w' g M:=h.F9a (k.block g h.lt hg)
theorem ext (h:G4a P w g M) (k:Ext w w'):G4a P w' g M:=h.F9a (k.block g h.lt)
theorem made (w:World):G4a P (w.alloc (.map #[] 0)) w.heap.size []:=
 ⟨by simpa [J2a] using y0b w P 3 (plainElem (H:=Unit) P 3),List.Pairwise.nil⟩
theorem tight (h:w.ownsMap P 3 (plainElem (H:=Unit) P 3) g n (J2a M)):w.ownsMap P 3 (plainElem (H:=Unit) P 3) g M.length (J2a M):=by
 obtain ⟨es,clock,hb,F,hs,hD⟩:=h
 refine ⟨es,clock,hb,F, ?_,hD⟩
 have e:=D1b M
 rw [hD] at e
 simp [Maps.size,length_sorted] at e
 omega
theorem look (h:G4a P w g M) (hk:P.underlying 3=some (.int .i64)) (ht:P.underlying t=some (.map 3 3)) (hz:(zeroValue 3).run P w = .ok (.int .i64 0) w) (hk2:(k:Int)<=9223372036854775807) :
    (Instr.lookup t (.map (some g)) (.int .i64 k) false).run P w = .ok (.int .i64 ((getI k M).getD 0)) w:=by
  have wf:(Lit.int .i64 k).wf=true:=WalkArith.wf_i64 (by omega);obtain ⟨c,hrun,hat,_⟩:=h.owns.lookup_int (int_keyed hk) ht hk hz (keyOf_int_mk hk wf);rw [hrun];rw [a7a] at hat
  cases hg:getI k M with
  | none=>
   rw [hg] at hat;simp only at hat;injection hat with hat
   injection hat with _ hat
   rw [<- hat];rfl
  | some v=>
   rw [hg] at hat;simp only at hat;injection hat with hat
   injection hat with _ hat
   rw [<- hat];rfl
theorem put (h:G4a P w g M) (hk:P.underlying 3=some (.int .i64)) (ht:P.underlying t=some (.map 3 3)) (hn:M.length < maxLen) (ha:(a:Int)<=9223372036854775807) (hx1 : -9223372036854775808<=x) (hx2:x<=9223372036854775807) :
    ∃ w',(Instr.mapUpdate t (.map (some g)) (.int .i64 a) (.int .i64 x)).run P w = .ok () w'/\G4a P w' g (putI a x M)/\w.mapTurned w' g:=by
  have wf:(Lit.int .i64 a).wf=true:=WalkArith.wf_i64 (by omega);have wfx:(Lit.int .i64 x).wf=true:=WalkArith.wf_i64 (by omega);obtain ⟨w',hrun,ho,ht'⟩:=h.owns.store (int_keyed hk) ht hn (keyOf_int_mk hk wf) (plainElem_int hk wfx);refine ⟨w',hrun, ?_,ht'⟩;have hc:=ho.canon (int_keyed hk);rw [O9b h.up a x hc] at ho;exact ⟨tight ho,M6a h.up⟩
end G4a
namespace Hp.Hs
def moves (S:Hs):List Nat->List Int->Nat->List (Nat × Int)->Option (List Int × Nat × List (Nat × Int))
 | [],W,next,M=>some (W,next,M)
 | a :: r,W,next,M=>do
  let wide <- S.k9a a
  let W <- lay W next (<- sub S.words a wide)
  moves S r W (next+wide) (putI a (next:Int) M)
def R2b (S:Hs) (M:List (Nat × Int)) (tt:Nat):Nat->Nat->List Int->Option (List Int)
 | 0,_,W=>some W
 | n+1,j,W=>do
  let k <- ra W (tt+4+j)
  let ks <- Hs.kids { S with words:=W } tt
  if j < ks.length then R2b S M tt n (j+1) (<- wr W (tt+4+j) ((getI k M).getD 0)) else none
def d2a (M:List (Nat × Int)):Hs->List Nat->Option Hs
 | S,[]=>some S
 | S,a :: r=>do
  let tt <- adr ((getI a M).getD 0)
  if S.words.length<=tt then none else
  let S:={ S with taken:=insert tt S.taken }
  let W <- R2b S M tt (<- S.kids tt).length 0 S.words
  let S:={ S with words:=W }
  let head <- chain (<- S.tag tt) (<- S.fields tt)
  let x <- rd S.words head
  let W <- wr (<- wr S.words (tt+3) x) head tt
  d2a M { S with words:=W } r
def moved (S:Hs):Option (List (Nat × Int) × Hs):=do
 let (W,next,M) <- moves S S.taken (List.replicate S.words.length 0) 17 []
 let S1 <- d2a M { S with words:=W,taken:=[] } S.taken
 if next < W.length then
  return (M,{ S1 with words:=(<- wr (<- wr S1.words 16 next) (next+1) (W.length-next)) })
 else some (M,S1)
end Hp.Hs
end Go.Proofs.YtdokmmhjmclmnaaGreat
