/- Part 25 of a proof. -/
import Derived.Test.YtdokmmhjmclmnaaGreatMU20
set_option linter.unusedSimpArgs false
set_option linter.unusedVariables false
set_option linter.unusedSectionVars false
set_option linter.unnecessarySimpa false
namespace Go.Proofs.YtdokmmhjmclmnaaGreat
open Go.Proofs.Tryz
variable {W' w w' w0 wb:World} {B a b bx c ca cap ce cn f g i j k lb m n qc:Nat} {choice e t x:Int} {A W fs ks l o z:List Int} {D T Y:List Nat} {p p2 pa pe pn q:Option Addr} {d:Hd} {S S':Hp.Hs} {r:Rd} {L:List Hp.Tl} {M:List (Nat × Int)} {s:Hp.Sc}
open Go
section
variable {P:Program} {ops:Array Oper} {Q:Exit->Act->World->Prop} {md:Region.Mode} {S:World->Prop}
def also (L:Nat->Bool) (i:Nat):Nat->Bool:=fun j=>if j=i then true else L j
def B2a (P:Program) (md:Region.Mode) (ops:Array Oper) (Q:Exit->Act->World->Prop) (S:World->Prop) (I:(Nat->Bool)->Act->World->Prop) (es:List Nat):Prop:=
 ∀ i ∈ es,∀ L a w,I L a w->L i=false->(∀ o,ops[i]? = some o -> ∀ e ∈ o.after,Region.binds md e=true->L e.on=true)->wpOp P ops Q i (fun a' w'=>S w'/\I (also L i) a' w') a w
theorem B2a.nil {I:(Nat->Bool)->Act->World->Prop}:B2a P md ops Q S I []:=fun _ h=>by cases h
theorem B2a.cons {I:(Nat->Bool)->Act->World->Prop} {o:Oper} {rs:List Nat} (ho:ops[i]? = some o)
    (h:∀ L a w,I L a w->L i=false->(∀ e ∈ o.after,Region.binds md e=true->L e.on=true) -> ∀ K':Act->World->Prop,Shut (∀ a' w',S w'->I (also L i) a' w'->K' a' w') ->
     if Region.wanted o (yielded ops a.tmps)=true then Oper.wp P o a w K' Q else K' (a.put o.dst undef) w)
    (hs:B2a P md ops Q S I rs):B2a P md ops Q S I (i :: rs):=fun j hj=>by
  rcases E6c.1 hj with rfl | hj
  . exact fun L a w hI hL hc=>wpOp_step ho (fun K' hK=>h L a w hI hL (hc o ho) K' (fun a w hS hW=>hK a w ⟨hS,hW⟩))
  exact hs j hj
theorem filter_lt {p q:Nat->Bool}:∀ (l:List Nat) (i:Nat),i ∈ l->p i=true->q i=false->(∀ j,q j=true->p j=true)->(l.filter q).length < (l.filter p).length:=by
 intro l
 induction l with
 | nil=>intro i h;cases h
 | cons x xs ih=>
  intro i hi hp hq hm;have hle:(xs.filter q).length<=(xs.filter p).length:=by
   rw [<- List.countP_eq_length_filter,<- List.countP_eq_length_filter];exact List.countP_mono_left (fun j _ h=>hm j h)
  rcases E6c.1 hi with rfl | hi
  . rw [r7b hp,r8b (by simp [hq]),A5c];omega
  have h:=ih i hi hp hq hm
  by_cases hx:q x=true
  . rw [r7b hx,r7b (hm x hx),A5c,A5c];omega
  rw [r8b hx]
  by_cases hy:p x=true
  . rw [r7b hy,A5c];omega
  rw [r8b hy];exact h
def f3a (md:Region.Mode) (ops:Array Oper):Bool:=(List.range ops.size).all fun i=>((ops[i]?).map (fun o=>o.after.all fun e=>!Region.binds md e || decide (e.on < i))).getD true
theorem t3a (h:f3a md ops=true) {o:Oper} (ho:ops[i]? = some o):∀ e ∈ o.after,Region.binds md e=true->e.on < i:=by
 unfold f3a at h
 rw [A7c] at h
 have h1:=h i (D8c.2 (q4b.1 ho).1)
 rw [ho] at h1
 simp only [Option.map_some,B6c,Array.all_eq_true'] at h1
 intro e he hb
 simpa [hb] using h1 e he
theorem N8b {I:(Nat->Bool)->Act->World->Prop} (es:List Nat) (hlow:f3a md ops=true) (hsteps:B2a P md ops Q S I es)
    (hend:∀ L a w,I L a w->(∀ i ∈ es,L i=true)->Q .normal a w) :
    ∀ (fuel:Nat) (listed:Array Bool) (a:Act) (w:World),listed.size=ops.size->(∀ i,i < ops.size->i ∉ es->listed.getD i true=true)->(∀ i ∈ es,i < ops.size) ->
     (es.filter fun j=>!listed.getD j true).length<=fuel->I (fun j=>listed.getD j false) a w->wpAnyH P md ops Q S fuel listed a w:=by
  intro fuel
  have key:∀ (listed:Array Bool) (a:Act) (w:World),listed.size=ops.size->(∀ i,i < ops.size->i ∉ es->listed.getD i true=true)->(∀ i ∈ es,i < ops.size) ->
      I (fun j=>listed.getD j false) a w->Region.ready md ops listed=[]->Q .normal a w:=by
    intro listed a w hsz hall hes hI hr;refine hend _ a w hI ?_;have hstrong:∀ n i,i < n->i < ops.size->listed.getD i true=true:=by
     intro n
     induction n with
     | zero=>intro i h;omega
     | succ n ih=>
      intro i hi hio
      by_cases hc:listed.getD i true=true
      . exact hc
      exfalso;have hm:i ∈ Region.ready md ops listed:=by
       refine mem_ready.2 ⟨by simpa using hc,ops[i],by simp [hio],fun e he hb=>?_⟩;have h1:=t3a hlow (show ops[i]? = some ops[i] by simp [hio]) e he hb;have h2:=ih e.on (by omega) (by omega);have h3:e.on < listed.size:=by omega
       simp only [Array.getD,h3,H3c] at h2 ⊢;exact h2
      rw [hr] at hm;cases hm
    intro i hi;have h2:=hstrong (i+1) i (by omega) (hes i hi);have h3:i < listed.size:=by rw [hsz];exact hes i hi
    simp only [Array.getD,h3,H3c] at h2 ⊢;exact h2
  induction fuel with
  | zero=>
   intro listed a w hsz hall hes hf hI;have hr:Region.ready md ops listed=[]:=by
    rcases hc:Region.ready md ops listed with _ | ⟨i,is⟩
    . rfl
    have hm:i ∈ Region.ready md ops listed:=by rw [hc];exact List.mem_cons_self
    obtain ⟨h1,o,ho,-⟩:=mem_ready.1 hm;have hio:=(q4b.1 ho).1;have hie:i ∈ es:=r0b fun hne=>by
     have h4:=hall i hio hne;rw [h1] at h4;cases h4
    have hpos:0 < (es.filter fun j=>!listed.getD j true).length:=s2b (C0c.2 ⟨hie,by rw [h1];rfl⟩);omega
   exact ⟨hr,key listed a w hsz hall hes hI hr⟩
  | succ fuel ih=>
   intro listed a w hsz hall hes hf hI;refine ⟨fun hr=>key listed a w hsz hall hes hI hr,fun i hi=>?_⟩;obtain ⟨h1,o,ho,h5⟩:=mem_ready.1 hi;have hio:=(q4b.1 ho).1;have hie:i ∈ es:=r0b fun hne=>by
    have h4:=hall i hio hne;rw [h1] at h4;cases h4
   have hil:i < listed.size:=by omega
   refine wpOp_mono (fun a' w' h=>⟨h.1, ?_⟩) (hsteps i hie _ a w hI (by simp only [Array.getD,hil,H3c] at h1 ⊢;exact h1) (fun o' ho' e he hb=>by rw [ho] at ho';cases ho';exact h5 e he hb));refine ih _ a' w' (by simp [hsz]) (fun j hj hne=>?_) hes ?_ ?_
   . have h4:=hall j hj hne
     by_cases hji:i=j
     . subst hji;exact absurd hie hne
     rw [getD_set_ne true hji];exact h4
   . have h6:(es.filter fun j=>!(listed.setIfInBounds i true).getD j true).length < (es.filter fun j=>!listed.getD j true).length:=by
       refine filter_lt es i hie (by rw [h1];rfl) (by simp [hil]) (fun j hj=>?_)
       by_cases hji:i=j
       . subst hji;rw [h1];rfl
       rw [getD_set_ne true hji] at hj;exact hj
     omega
   have h7:(fun j=>(listed.setIfInBounds i true).getD j false)=also (fun j=>listed.getD j false) i:=by
    funext j
    unfold also
    by_cases hji:j=i
    . subst hji;rw [H5c rfl];simp [hil]
    rw [H4c hji];exact getD_set_ne false (Ne.symm hji)
   rw [h7];exact h.2
def T9a (a:Act):List Nat->List Value->Act
 | s :: ss,v :: vs=>T9a (a.put (some s) v) ss vs
 | _,_=>a
theorem j7b (a:Act) (s:Nat):a.put (some s) (a.tmps.getD s undef)=a:=by
 obtain ⟨t,d⟩:=a
 simp only [Act.put,Act.mk.injEq,and_true]
 apply Array.ext_getElem?
 intro i
 by_cases h:s=i
 . subst h
   by_cases hs:s < t.size
   . simp [hs,Array.getD]
   simp [hs]
 rw [Array.getElem?_setIfInBounds_ne h]
theorem K5b (a:Act):∀ ss:List Nat,T9a a ss (ss.map fun s=>a.tmps.getD s undef)=a:=by
 intro ss
 induction ss with
 | nil=>rfl
 | cons s ss ih=>rw [E7c,T9a,j7b];exact ih
theorem T2a {a:Act} {fuel:Nat} {listed:Array Bool} (es ss:List Nat) (J:(Nat->Bool)->List Value->World->Prop) (hlow:f3a md ops=true)
    (hsz:(listed.size == ops.size && (List.range ops.size).all (fun i=>decide (i ∈ es) || listed.getD i true) && es.all (fun i=>decide (i < ops.size)) && decide ((es.filter fun j=>!listed.getD j true).length<=fuel))=true)
    (h0:J (fun j=>listed.getD j false) (ss.map fun s=>a.tmps.getD s undef) w)
    (hsteps:B2a P md ops Q S (fun L a' w'=>∃ vs,a'=T9a a ss vs/\J L vs w') es)
    (hend:∀ L vs w',J L vs w'->(∀ i ∈ es,L i=true)->Q .normal (T9a a ss vs) w'):wpAnyH P md ops Q S fuel listed a w:=by
  simp only [B8c,beq_iff_eq,A7c,D4c,A1c,D8c] at hsz;refine N8b es hlow hsteps ?_ fuel listed a w hsz.1.1.1 (fun i hi hne=>(hsz.1.1.2 i hi).resolve_left hne) hsz.1.2 hsz.2 ⟨_,(K5b a ss).symm,h0⟩;rintro L a' w' ⟨vs,rfl,hJ⟩ hall;exact hend L vs w' hJ hall
end
open Go.RowKit Go.Maps
structure Hp.Ready (z o:List Int) (n:Nat) (acts:List Hp.Act'):Prop where
 fr:Hp.FrOk z o
 err:Hp.G1a z o n=0
 n1:32<=n
 n2:n<=400
 few:acts.length<=60
 short:∀ x ∈ acts,x.list.length<=14
theorem Hp.f1b {n:Int} {acts:List Hp.Act'} (h:Hp.I9b z o n acts=true):∃ k:Nat,n=k/\Hp.Ready z o k acts:=by
 simp only [Hp.I9b,Hp.q9a,B8c,D4c,A1c,A7c] at h
 obtain ⟨⟨_,h2,h3,h4⟩,h5⟩:=h
 have h6:=h5
 unfold Hp.G1a at h6
 have hf:Hp.A2a z o=0:=by
  apply r0b;intro hc;simp [hc] at h6
 have hw:Hp.within 32 40000 n=true:=by
  cases hw:Hp.within 32 40000 n with
  | true=>rfl
  | false=>simp [hf,hw] at h6
 simp only [Hp.within,B8c,A1c] at hw
 obtain ⟨k,rfl⟩:∃ k:Nat,n=k:=⟨n.toNat,by omega⟩
 refine ⟨k,rfl,(Hp.H8a hf).1,h5,by omega, ?_,h2,h3⟩
 rcases h4 with h4 | h4
 . exact absurd hf h4
 omega
theorem l5a.fault {l:List Hp.Act'} (h:l5a w p c l):∀ x ∈ l,0<=x.fault:=fun x hx=>by
 obtain ⟨j,hj,rfl⟩:=u9b hx
 obtain ⟨b,o,_,_,hc⟩:=h.cells (by omega)
 obtain ⟨q,c',f,ok,_⟩:=hc j _ (r1b hj)
 have:(l[j]).fault=f:=ok.fault
 omega
theorem Hp.Ready.plays {acts:List Hp.Act'} (h:Hp.Ready z o n acts) (hf:∀ x ∈ acts,0<=x.fault):∃ S0 s',Hp.new z o n=some S0/\Hp.Sc.play ⟨S0,[],[]⟩ acts=some s'/\s'.S.sizes=z/\s'.S.order=o/\s'.S.words.length=n/\Hp.Good s'.S 60:=by
 obtain ⟨S0,e,hz,ho,hl,hw⟩:=Hp.f7b h.fr (n:=n) (by have:=h.n1;omega) (by have:=h.n2;omega)
 have few:=h.few
 obtain ⟨s',e2,⟨L,ch,hg⟩,g⟩:=Hp.y4a acts ⟨S0,[],[]⟩ 0 ⟨_,_,hw⟩ (by omega) hf
 exact ⟨S0,s',e,e2,g.sizes.trans hz,g.order.trans ho,g.len.trans hl,L,ch,hg.more (by omega) (by omega)⟩
def LoadIn (w:World) (S:Hp.Hs) (v:Value) (W:World):Prop:=∃ d:Hd,v = .tuple #[.pointer (some ⟨d.hb,0,none⟩),.int .i64 0]/\HAt W d S/\(∀ b ∈ d.own,w.heap.size<=b)/\(∀ b o,d.sp=some ⟨b,o,none⟩->w.heap.size<=b) /\ ∀ b o,d.op=some ⟨b,o,none⟩->w.heap.size<=b
theorem m4b {W:World} {d gb go wc:Nat} {ch:Nat->List Nat} (ez:S.sizes=z) (eo:S.order=o) (en:S.words.length=n) (hs:SliceAt W p c z) (ho:SliceAt W q d o) (hw':SliceAt W (some ⟨gb,go,none⟩) wc S.words) (hp:0 < z.length \/ p=none) (hq:0 < o.length \/ q=none) (hw:Hp.Wf S B L ch) (he:Hp.G1a z o n=0) (hE:Ext w W) :
    Calls prog 16 #[.slice p z.length c,.slice q o.length d,.slice (some ⟨gb,go,none⟩) n wc] W fun e w'=>∃ v,e = .returned v/\LoadIn w S v w'/\Ext W w':=by
  subst ez eo en;refine (c1b hs ho hw' hp hq hw he).mono ?_;rintro e w' ⟨d',rfl,h1,h2,h3,h4,h5⟩;have:=hE.le;exact ⟨_,rfl,⟨d',rfl,h1,fun b hb=>G5c this (h2 b hb),fun b o e=>G5c this (h4 b o e),fun b o e=>G5c this (h5 b o e)⟩,h3⟩
end Go.Proofs.YtdokmmhjmclmnaaGreat
