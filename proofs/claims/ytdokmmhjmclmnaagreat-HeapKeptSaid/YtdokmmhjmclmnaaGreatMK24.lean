/-
  Part 24 of a proof: RegInv LH9.
-/
import Derived.Deep.RegionHeld3
import Derived.Test.YtdokmmhjmclmnaaGreatMK23
set_option linter.unusedSimpArgs false
set_option linter.unusedVariables false
set_option linter.unusedSectionVars false
set_option linter.unnecessarySimpa false
namespace Go.Proofs.YtdokmmhjmclmnaaGreat
variable {W' w w' w0:World} {B a b base c ca cap f g i j k k1 k2 m n oc sb sc:Nat} {choice e t x:Int} {W fs l o z:List Int} {A T:List Nat} {op p p1 p2 pa pe pn q sp:Option Addr} {d:Hd} {S S':Hp.Hs} {r:Rd} {L:List Hp.Tl} {M:List (Nat × Int)} {s s':Hp.Sc} {acts:List Hp.Act'}
open Go
section
variable {P:Program} {ops:Array Oper} {Q:Exit->Act->World->Prop} {md:Region.Mode} {S:World->Prop}
def also (L:Nat->Bool) (i:Nat):Nat->Bool:=fun j=>if j=i then true else L j
def StepsInv (P:Program) (md:Region.Mode) (ops:Array Oper) (Q:Exit->Act->World->Prop) (S:World->Prop) (I:(Nat->Bool)->Act->World->Prop) (es:List Nat):Prop:=
 ∀ i ∈ es,∀ L a w,I L a w->L i=false->(∀ o,ops[i]? = some o -> ∀ e ∈ o.after,Region.binds md e=true->L e.on=true)->wpOp P ops Q i (fun a' w'=>S w'/\I (also L i) a' w') a w
theorem StepsInv.nil {I:(Nat->Bool)->Act->World->Prop}:StepsInv P md ops Q S I []:=fun _ h=>by cases h
theorem StepsInv.cons {I:(Nat->Bool)->Act->World->Prop} {o:Oper} {rs:List Nat} (ho:ops[i]? = some o)
    (h:∀ L a w,I L a w->L i=false->(∀ e ∈ o.after,Region.binds md e=true->L e.on=true) -> ∀ K':Act->World->Prop,Shut (∀ a' w',S w'->I (also L i) a' w'->K' a' w') ->
     if Region.wanted o (yielded ops a.tmps)=true then Oper.wp P o a w K' Q else K' (a.put o.dst undef) w)
    (hs:StepsInv P md ops Q S I rs):StepsInv P md ops Q S I (i :: rs):=fun j hj=>by
  rcases List.mem_cons.1 hj with rfl | hj
  . exact fun L a w hI hL hc=>wpOp_step ho (fun K' hK=>h L a w hI hL (hc o ho) K' (fun a w hS hW=>hK a w ⟨hS,hW⟩))
  exact hs j hj
theorem filter_lt {p q:Nat->Bool}:∀ (l:List Nat) (i:Nat),i ∈ l->p i=true->q i=false->(∀ j,q j=true->p j=true)->(l.filter q).length < (l.filter p).length:=by
 intro l
 induction l with
 | nil=>intro i h;cases h
 | cons x xs ih=>
  intro i hi hp hq hm;have hle:(xs.filter q).length<=(xs.filter p).length:=by
   rw [<- List.countP_eq_length_filter,<- List.countP_eq_length_filter];exact List.countP_mono_left (fun j _ h=>hm j h)
  rcases List.mem_cons.1 hi with rfl | hi
  . rw [List.filter_cons_of_pos hp,List.filter_cons_of_neg (by simp [hq]),List.length_cons];omega
  have h:=ih i hi hp hq hm
  by_cases hx:q x=true
  . rw [List.filter_cons_of_pos hx,List.filter_cons_of_pos (hm x hx),List.length_cons,List.length_cons];omega
  rw [List.filter_cons_of_neg hx]
  by_cases hy:p x=true
  . rw [List.filter_cons_of_pos hy,List.length_cons];omega
  rw [List.filter_cons_of_neg hy];exact h
def lowAfter (md:Region.Mode) (ops:Array Oper):Bool:=(List.range ops.size).all fun i=>((ops[i]?).map (fun o=>o.after.all fun e=>!Region.binds md e || decide (e.on < i))).getD true
theorem lowAfter_spec (h:lowAfter md ops=true) {o:Oper} (ho:ops[i]? = some o):∀ e ∈ o.after,Region.binds md e=true->e.on < i:=by
 unfold lowAfter at h
 rw [List.all_eq_true] at h
 have h1:=h i (List.mem_range.2 (Array.getElem?_eq_some_iff.1 ho).1)
 rw [ho] at h1
 simp only [Option.map_some,Option.getD_some,Array.all_eq_true'] at h1
 intro e he hb
 simpa [hb] using h1 e he
theorem wpAnyH_inv {I:(Nat->Bool)->Act->World->Prop} (es:List Nat) (hlow:lowAfter md ops=true) (hsteps:StepsInv P md ops Q S I es)
    (hend:∀ L a w,I L a w->(∀ i ∈ es,L i=true)->Q .normal a w) :
    ∀ (fuel:Nat) (listed:Array Bool) (a:Act) (w:World),listed.size=ops.size->(∀ i,i < ops.size->i ∉ es->listed.getD i true=true)->(∀ i ∈ es,i < ops.size) ->
     (es.filter fun j=>!listed.getD j true).length<=fuel->I (fun j=>listed.getD j false) a w->wpAnyH P md ops Q S fuel listed a w:=by
  intro fuel
  have key:∀ (listed:Array Bool) (a:Act) (w:World),listed.size=ops.size->(∀ i,i < ops.size->i ∉ es->listed.getD i true=true)->(∀ i ∈ es,i < ops.size) ->
      I (fun j=>listed.getD j false) a w->Region.ready md ops listed=[]->Q .normal a w:=by
    intro listed a w hsz hall hes hI hr;refine hend _ a w hI ?_;have hstrong:∀ n i,i < n->i < ops.size->listed.getD i true=true:=by
     intro n
     induction n with
     | zero=>intro i h;omega
     | succ n ih=>
      intro i hi hio
      by_cases hc:listed.getD i true=true
      . exact hc
      exfalso;have hm:i ∈ Region.ready md ops listed:=by
       refine mem_ready.2 ⟨by simpa using hc,ops[i],by simp [hio],fun e he hb=>?_⟩;have h1:=lowAfter_spec hlow (show ops[i]? = some ops[i] by simp [hio]) e he hb;have h2:=ih e.on (by omega) (by omega);have h3:e.on < listed.size:=by omega
       simp only [Array.getD,h3,dif_pos] at h2 ⊢;exact h2
      rw [hr] at hm;cases hm
    intro i hi;have h2:=hstrong (i+1) i (by omega) (hes i hi);have h3:i < listed.size:=by rw [hsz];exact hes i hi
    simp only [Array.getD,h3,dif_pos] at h2 ⊢;exact h2
  induction fuel with
  | zero=>
   intro listed a w hsz hall hes hf hI;have hr:Region.ready md ops listed=[]:=by
    rcases hc:Region.ready md ops listed with _ | ⟨i,is⟩
    . rfl
    have hm:i ∈ Region.ready md ops listed:=by rw [hc];exact List.mem_cons_self
    obtain ⟨h1,o,ho,-⟩:=mem_ready.1 hm;have hio:=(Array.getElem?_eq_some_iff.1 ho).1;have hie:i ∈ es:=Classical.byContradiction fun hne=>by
     have h4:=hall i hio hne;rw [h1] at h4;cases h4
    have hpos:0 < (es.filter fun j=>!listed.getD j true).length:=List.length_pos_of_mem (List.mem_filter.2 ⟨hie,by rw [h1];rfl⟩);omega
   exact ⟨hr,key listed a w hsz hall hes hI hr⟩
  | succ fuel ih=>
   intro listed a w hsz hall hes hf hI;refine ⟨fun hr=>key listed a w hsz hall hes hI hr,fun i hi=>?_⟩;obtain ⟨h1,o,ho,h5⟩:=mem_ready.1 hi;have hio:=(Array.getElem?_eq_some_iff.1 ho).1;have hie:i ∈ es:=Classical.byContradiction fun hne=>by
    have h4:=hall i hio hne;rw [h1] at h4;cases h4
   have hil:i < listed.size:=by omega
   refine wpOp_mono (fun a' w' h=>⟨h.1, ?_⟩) (hsteps i hie _ a w hI (by simp only [Array.getD,hil,dif_pos] at h1 ⊢;exact h1) (fun o' ho' e he hb=>by rw [ho] at ho';cases ho';exact h5 e he hb));refine ih _ a' w' (by simp [hsz]) (fun j hj hne=>?_) hes ?_ ?_
   . have h4:=hall j hj hne
     by_cases hji:i=j
     . subst hji;exact absurd hie hne
     rw [getD_set_ne true hji];exact h4
   . have h6:(es.filter fun j=>!(listed.setIfInBounds i true).getD j true).length < (es.filter fun j=>!listed.getD j true).length:=by
       refine filter_lt es i hie (by rw [h1];rfl) (by simp [hil]) (fun j hj=>?_)
       by_cases hji:i=j
       . subst hji;rw [h1];rfl
       rw [getD_set_ne true hji] at hj;exact hj
     omega
   have h7:(fun j=>(listed.setIfInBounds i true).getD j false)=also (fun j=>listed.getD j false) i:=by
    funext j
    unfold also
    by_cases hji:j=i
    . subst hji;rw [if_pos rfl];simp [hil]
    rw [if_neg hji];exact getD_set_ne false (Ne.symm hji)
   rw [h7];exact h.2
def putAll (a:Act):List Nat->List Value->Act
 | s :: ss,v :: vs=>putAll (a.put (some s) v) ss vs
 | _,_=>a
theorem put_own (a:Act) (s:Nat):a.put (some s) (a.tmps.getD s undef)=a:=by
 obtain ⟨t,d⟩:=a
 simp only [Act.put,Act.mk.injEq,and_true]
 apply Array.ext_getElem?
 intro i
 by_cases h:s=i
 . subst h
   by_cases hs:s < t.size
   . simp [hs,Array.getD]
   simp [hs]
 rw [Array.getElem?_setIfInBounds_ne h]
theorem putAll_own (a:Act):∀ ss:List Nat,putAll a ss (ss.map fun s=>a.tmps.getD s undef)=a:=by
 intro ss
 induction ss with
 | nil=>rfl
 | cons s ss ih=>rw [List.map_cons,putAll,put_own];exact ih
theorem wpAnyH_slots {a:Act} {fuel:Nat} {listed:Array Bool} (es ss:List Nat) (J:(Nat->Bool)->List Value->World->Prop) (hlow:lowAfter md ops=true)
    (hsz:(listed.size == ops.size && (List.range ops.size).all (fun i=>decide (i ∈ es) || listed.getD i true) && es.all (fun i=>decide (i < ops.size)) && decide ((es.filter fun j=>!listed.getD j true).length<=fuel))=true)
    (h0:J (fun j=>listed.getD j false) (ss.map fun s=>a.tmps.getD s undef) w)
    (hsteps:StepsInv P md ops Q S (fun L a' w'=>∃ vs,a'=putAll a ss vs/\J L vs w') es)
    (hend:∀ L vs w',J L vs w'->(∀ i ∈ es,L i=true)->Q .normal (putAll a ss vs) w'):wpAnyH P md ops Q S fuel listed a w:=by
  simp only [Bool.and_eq_true,beq_iff_eq,List.all_eq_true,Bool.or_eq_true,decide_eq_true_eq,List.mem_range] at hsz;refine wpAnyH_inv es hlow hsteps ?_ fuel listed a w hsz.1.1.1 (fun i hi hne=>(hsz.1.1.2 i hi).resolve_left hne) hsz.1.2 hsz.2 ⟨_,(putAll_own a ss).symm,h0⟩;rintro L a' w' ⟨vs,rfl,hJ⟩ hall;exact hend L vs w' hJ hall
end
open Go.RowKit Go.Maps
def Came (b:Bool) (p:Prop):Prop:=b=true->p
structure Hp.Ready (z o:List Int) (n:Nat) (acts:List Hp.Act'):Prop where
 fr:Hp.FrOk z o
 err:Hp.newErr z o n=0
 n1:32<=n
 n2:n<=400
 few:acts.length<=60
 short:∀ x ∈ acts,x.list.length<=14
theorem Hp.ready_ok {n:Int} (h:Hp.readyB z o n acts=true):∃ k:Nat,n=k/\Hp.Ready z o k acts:=by
 simp only [Hp.readyB,Hp.thinB,Bool.and_eq_true,Bool.or_eq_true,decide_eq_true_eq,List.all_eq_true] at h
 obtain ⟨⟨_,h2,h3,h4⟩,h5⟩:=h
 have h6:=h5
 unfold Hp.newErr at h6
 have hf:Hp.frameErr z o=0:=by
  apply Classical.byContradiction;intro hc;simp [hc] at h6
 have hw:Hp.within 32 40000 n=true:=by
  cases hw:Hp.within 32 40000 n with
  | true=>rfl
  | false=>simp [hf,hw] at h6
 simp only [Hp.within,Bool.and_eq_true,decide_eq_true_eq] at hw
 obtain ⟨k,rfl⟩:∃ k:Nat,n=k:=⟨n.toNat,by omega⟩
 refine ⟨k,rfl,(Hp.frameErr_ok hf).1,h5,by omega, ?_,h2,h3⟩
 rcases h4 with h4 | h4
 . exact absurd hf h4
 omega
theorem ActsW.fault {l:List Hp.Act'} (h:ActsW w p c l):∀ x ∈ l,0<=x.fault:=fun x hx=>by
 obtain ⟨j,hj,rfl⟩:=List.getElem_of_mem hx
 obtain ⟨b,o,_,_,hc⟩:=h.cells (by omega)
 obtain ⟨q,c',f,ok,_⟩:=hc j _ (List.getElem?_eq_getElem hj)
 have:(l[j]).fault=f:=ok.fault
 omega
theorem Hp.Ready.plays (h:Hp.Ready z o n acts) (hf:∀ x ∈ acts,0<=x.fault):∃ S0 s',Hp.new z o n=some S0/\Hp.Sc.play ⟨S0,[],[]⟩ acts=some s'/\s'.S.sizes=z/\s'.S.order=o/\s'.S.words.length=n/\Hp.Good s'.S 60:=by
 obtain ⟨S0,e,hz,ho,hl,hw⟩:=Hp.new_wf h.fr (n:=n) (by have:=h.n1;omega) (by have:=h.n2;omega)
 have few:=h.few
 obtain ⟨s',e2,⟨L,ch,hg⟩,g⟩:=Hp.play_good acts ⟨S0,[],[]⟩ 0 ⟨_,_,hw⟩ (by omega) hf
 exact ⟨S0,s',e,e2,g.sizes.trans hz,g.order.trans ho,g.len.trans hl,L,ch,hg.more (by omega) (by omega)⟩
def IntsIn (w:World) (l:List Int) (v:Value) (W:World):Prop:=∃ p c,v = .slice p l.length c/\SliceAt W p c l/\(0 < l.length \/ p=none)
theorem IntsIn.ext {W:World} {v:Value} (h:IntsIn w l v W) (e:Ext W W'):IntsIn w l v W':=by
 obtain ⟨p,c,rfl,h1,h2⟩:=h
 exact ⟨p,c,rfl,h1.ext e,h2⟩
theorem ints_in {W:World} (h:SliceAt W p c l) (hp:p=none->c=0) (hl:l.length<=1000000) :
    Calls Tryz.prog 17 #[.slice p l.length c] W fun e w'=>∃ v,e = .returned v/\IntsIn w l v w'/\Ext W w':=by
  refine (ints_any h hp hl).mono ?_;rintro e w' ⟨p',c',rfl,hR,hE,h0⟩;exact ⟨_,rfl,⟨p',c',rfl,hR.at_,h0⟩,hE⟩
def WordsIn (n:Nat) (l:List Int) (v:Value) (W:World):Prop:=∃ g c,v = .slice (some ⟨g,0,none⟩) n c/\SliceAt W (some ⟨g,0,none⟩) c l
theorem WordsIn.ext {W:World} {v:Value} (h:WordsIn n l v W) (e:Ext W W'):WordsIn n l v W':=by
 obtain ⟨g,c,rfl,h1⟩:=h
 exact ⟨g,c,rfl,h1.ext e⟩
theorem words_in {W:World} (hn:l.length=n) (h:SliceAt W p c l) (h0:0 < n) (hl:n<=1000000) :
    Calls Tryz.prog 17 #[.slice p n c] W fun e w'=>∃ v,e = .returned v/\WordsIn n l v w'/\Ext W w':=by
  subst hn;refine (ints_any h (fun hp=>by obtain ⟨b,o,e,_⟩:=h.cells h0;rw [hp] at e;cases e) hl).mono ?_
  rintro e w' ⟨p',c',rfl,hR,hE,_⟩;obtain ⟨b,o,rfl,hb,_⟩:=hR.at_.cells h0;have ho:o=0:=by
   rcases hR.1.2 with ⟨e,_⟩ | ⟨g',cap',cur,e,_⟩
   . injection e with e1
     cases e1
   injection e with e1
   cases e1
   rfl
  subst ho;exact ⟨_,rfl,⟨b,c',rfl,hR.at_⟩,hE⟩
def ActsIn (acts:List Hp.Act') (v:Value) (W:World):Prop:=∃ p c,v = .slice p acts.length c/\ActsAt W p c acts
theorem ActsIn.ext {W:World} {l:List Hp.Act'} {v:Value} (h:ActsIn l v W) (e:Ext W W'):ActsIn l v W':=by
 obtain ⟨p,c,rfl,h1⟩:=h
 exact ⟨p,c,rfl,h1.ext e⟩
theorem acts_in {W:World} (hw:ActsW W pa ca acts) (hl:acts.length<=60) (hl2:∀ x ∈ acts,x.list.length<=14) (hn:NilActs W pa acts) :
    Calls Tryz.prog 31 #[.slice pa acts.length ca] W fun e w'=>∃ v,e = .returned v/\ActsIn acts v w'/\Ext W w':=by
  refine (acts_any (hw.at_ hl2) hl hl2 hw hn).mono ?_;rintro e w' ⟨p',c',rfl,hA,hE⟩;exact ⟨_,rfl,⟨p',c',rfl,hA⟩,hE⟩
def PlayIn (n:Nat) (l:List Int) (v:Value) (W:World):Prop:=∃ p m c g cap,v = .tuple #[.slice p m c,.slice (some ⟨g,0,none⟩) n cap,.int .i64 0]/\SliceAt W (some ⟨g,0,none⟩) cap l
theorem PlayIn.ext {W:World} {v:Value} (h:PlayIn n l v W) (e:Ext W W'):PlayIn n l v W':=by
 obtain ⟨p,m,c,g,cap,rfl,h1⟩:=h
 exact ⟨p,m,c,g,cap,rfl,h1.ext e⟩
theorem play_in {W:World} {d:Nat} {S0:Hp.Hs} (hs:SliceAt W p c z) (ho:SliceAt W q d o) (hp:0 < z.length \/ p=none) (hq:0 < o.length \/ q=none) (hr:Hp.Ready z o n acts)
    (hS:Hp.new z o n=some S0) (ha:ActsAt W pa ca acts) (hpl:Hp.Sc.play ⟨S0,[],[]⟩ acts=some s') (hn:s'.S.words.length=n) :
    Calls Tryz.prog 30 #[.slice p z.length c,.slice q o.length d,.int .i64 n,.slice pa acts.length ca] W fun e w'=>∃ v,e = .returned v/\PlayIn n s'.S.words v w'/\Ext W w':=by
  have few:=hr.fr.few;have hlen:=hr.fr.len;refine (Play_any hs ho hp hq (by omega) few hr.n1 (by have:=hr.n2;omega) hr.err hS hr.fr.pos ha (by have:=hr.few;omega) hpl).mono ?_;rintro e w' ⟨p',c',g,cap,rfl,h1,h2,hE⟩;rw [hn];exact ⟨_,rfl,⟨p',_,c',g,cap,rfl,h2⟩,hE⟩
def LoadIn (w:World) (S:Hp.Hs) (v:Value) (W:World):Prop:=∃ d:Hd,v = .tuple #[.pointer (some ⟨d.hb,0,none⟩),.int .i64 0]/\HAt W d S/\(∀ b ∈ d.own,w.heap.size<=b)/\(∀ b o,d.sp=some ⟨b,o,none⟩->w.heap.size<=b) /\ ∀ b o,d.op=some ⟨b,o,none⟩->w.heap.size<=b
theorem LoadIn.ext {W:World} {v:Value} (h:LoadIn w S v W) (e:Ext W W'):LoadIn w S v W':=by
 obtain ⟨d,rfl,h1,h2⟩:=h
 exact ⟨d,rfl,h1.ext e,h2⟩
theorem load_in {W:World} {d gb go wc:Nat} {ch:Nat->List Nat} (ez:S.sizes=z) (eo:S.order=o) (en:S.words.length=n) (hs:SliceAt W p c z) (ho:SliceAt W q d o) (hw':SliceAt W (some ⟨gb,go,none⟩) wc S.words) (hp:0 < z.length \/ p=none) (hq:0 < o.length \/ q=none) (hw:Hp.Wf S B L ch) (he:Hp.newErr z o n=0) (hE:Ext w W) :
    Calls Tryz.prog 16 #[.slice p z.length c,.slice q o.length d,.slice (some ⟨gb,go,none⟩) n wc] W fun e w'=>∃ v,e = .returned v/\LoadIn w S v w'/\Ext W w':=by
  subst ez eo en;refine (Load_any hs ho hw' hp hq hw he).mono ?_;rintro e w' ⟨d',rfl,h1,h2,h3,h4,h5⟩;have:=hE.le;exact ⟨_,rfl,⟨d',rfl,h1,fun b hb=>Nat.le_trans this (h2 b hb),fun b o e=>Nat.le_trans this (h4 b o e),fun b o e=>Nat.le_trans this (h5 b o e)⟩,h3⟩
def tg (v:Value) (k:Nat):Value:=match v with
 | .tuple xs=>xs.getD k undef
 | _=>undef
theorem tg3_0 (a b c:Value):tg (.tuple #[a,b,c]) 0=a:=rfl
theorem tg3_1 (a b c:Value):tg (.tuple #[a,b,c]) 1=b:=rfl
theorem tg3_2 (a b c:Value):tg (.tuple #[a,b,c]) 2=c:=rfl
theorem tg2_0 (a b:Value):tg (.tuple #[a,b]) 0=a:=rfl
theorem tg2_1 (a b:Value):tg (.tuple #[a,b]) 1=b:=rfl
theorem check_is {gb go wc:Nat} {ch:Nat->List Nat} (ez:S.sizes=z) (eo:S.order=o) (en:S.words.length=n) (hs:SliceAt w sp sc z) (ho:SliceAt w op oc o) (hw':SliceAt w (some ⟨gb,go,none⟩) wc S.words) (hw:Hp.Wf S B L ch) :
    Calls Tryz.prog 19 #[.slice sp z.length sc,.slice op o.length oc,.slice (some ⟨gb,go,none⟩) n wc] w fun e w'=>e = .returned (.bool true)/\Ext w w':=by
  subst ez eo en;exact rCheck hs ho hw' hw
structure Pd (w w':World) (d:Hd) (S:Hp.Hs) (g c:Nat):Prop where
 at_:HAt w' d S
 ext:Ext w w'
 own:∀ b ∈ d.own,w.heap.size<=b
 gown:g ∉ d.own
 o1:∀ b o,d.sp=some ⟨b,o,none⟩->w.heap.size<=b
 o2:∀ b o,d.op=some ⟨b,o,none⟩->w.heap.size<=b
 ws:SliceAt w' (some ⟨g,0,none⟩) c S.words
def PlayedPost (w:World) (z o:List Int) (n:Nat) (e:Ending) (w':World):Prop:=
 ∃ d S g c L ch,e = .returned (.tuple #[.pointer (some ⟨d.hb,0,none⟩),.slice (some ⟨g,0,none⟩) n c,.bool true])/\Pd w w' d S g c/\Hp.Wf S 60 L ch/\S.sizes=z/\S.order=o/\S.words.length=n
set_option maxRecDepth 100000 in
set_option maxHeartbeats 16000000 in
theorem lPlayed (h:SAt w sp sc op oc pa ca z o acts) (hr:Hp.Ready z o n acts) :
    Calls Tryz.prog 41 #[.agg #[.slice sp z.length sc,.slice op o.length oc,.int .i64 n,.slice pa acts.length ca]] w (PlayedPost w z o n):=by
  obtain ⟨S0,s',hS,hpl,hz,ho,hl,L,ch,hw⟩:=hr.plays h.acts.fault;have EQ:=hZ (show s'.S.sizes=z/\s'.S.order=o/\s'.S.words.length=n from ⟨hz,ho,hl⟩);have E0:Ext w (w.alloc (.cells #[.slice sp z.length sc,.slice op o.length oc,.int .i64 n,.slice pa acts.length ca] 25)):=Ext.alloc (Ext.refl _) _;have H:=hZ (h.ext E0);have HR:=hZ hr;have HS:=hZ hS;have HPL:=hZ hpl;have HW:=hZ hw;have few:=hr.fr.few;have few2:o.length<=6:=by have:=hr.fr.len;omega
  have n1:=hr.n1;have n2:=hr.n2;have HE0:=hZ E0;clear h hr hS hpl hw E0 hz ho hl;have c0:(w.alloc (.cells #[.slice sp z.length sc,.slice op o.length oc,.int .i64 n,.slice pa acts.length ca] 25)).cell? ⟨w.heap.size,0,none⟩=some (.slice sp z.length sc):=by go_simp
  have c1:(w.alloc (.cells #[.slice sp z.length sc,.slice op o.length oc,.int .i64 n,.slice pa acts.length ca] 25)).cell? ⟨w.heap.size,1,none⟩=some (.slice op o.length oc):=by go_simp
  have c2:(w.alloc (.cells #[.slice sp z.length sc,.slice op o.length oc,.int .i64 n,.slice pa acts.length ca] 25)).cell? ⟨w.heap.size,2,none⟩=some (.int .i64 n):=by go_simp
  have c3:(w.alloc (.cells #[.slice sp z.length sc,.slice op o.length oc,.int .i64 n,.slice pa acts.length ca] 25)).cell? ⟨w.heap.size,3,none⟩=some (.slice pa acts.length ca):=by go_simp
  have z0:=cell_lt c0;go_enter Tryz.func41,Tryz.ntmps41;go_upto_region 1 with fail
  generalize (w.alloc (.cells #[.slice sp z.length sc,.slice op o.length oc,.int .i64 n,.slice pa acts.length ca] 25))=w0 at H HE0 c0 c1 c2 c3 z0 ⊢;generalize w.heap.size=gb at c0 c1 c2 c3 z0 ⊢;have PR57:=hZ (fun (ww:World) (hSw:Ext w0 ww)=>And.intro ((hSw.cell z0 0).trans c0) (And.intro ((hSw.cell z0 1).trans c1) (And.intro ((hSw.cell z0 2).trans c2) ((hSw.cell z0 3).trans c3))));refine wp_region_held_drew (S:=fun W=>Ext w0 W) (by kernel_rfl) ?_ (fun hS=>?_)
  . exact exx
  refine' wpAnyH_take (i:=0) (v:=?v0_1) rfl (by kernel_rfl) (by kernel_rfl) (by kernel_rfl) (fun _ _ _ h=>h) (Or.inl ⟨by rfl, ?hy0_1⟩) (by assumption) ?rest0_1
  case hy0_1=>(intro w q;obtain ⟨k0,k1,k2,k3⟩:=PR57.out w q;go_simp;try with_reducible rfl)
  refine layy ?_;refine' wpAnyH_take (i:=1) (v:=?v1_2) rfl (by kernel_rfl) (by kernel_rfl) (by kernel_rfl) (fun _ _ _ h=>h) (Or.inl ⟨by rfl, ?hy1_2⟩) (by assumption) ?rest1_2
  case hy1_2=>(intro w q;obtain ⟨k0,k1,k2,k3⟩:=PR57.out w q;go_simp;try with_reducible rfl)
  refine layy ?_;refine' wpAnyH_take (i:=3) (v:=?v3_3) rfl (by kernel_rfl) (by kernel_rfl) (by kernel_rfl) (fun _ _ _ h=>h) (Or.inl ⟨by rfl, ?hy3_3⟩) (by assumption) ?rest3_3
  case hy3_3=>(intro w q;obtain ⟨k0,k1,k2,k3⟩:=PR57.out w q;go_simp;try with_reducible rfl)
  refine layy ?_;refine' wpAnyH_take (i:=4) (v:=?v4_4) rfl (by kernel_rfl) (by kernel_rfl) (by kernel_rfl) (fun _ _ _ h=>h) (Or.inl ⟨by rfl, ?hy4_4⟩) (by assumption) ?rest4_4
  case hy4_4=>(intro w q;obtain ⟨k0,k1,k2,k3⟩:=PR57.out w q;go_simp;try with_reducible rfl)
  refine layy ?_;refine' wpAnyH_take (i:=6) (v:=?v6_5) rfl (by kernel_rfl) (by kernel_rfl) (by kernel_rfl) (fun _ _ _ h=>h) (Or.inl ⟨by rfl, ?hy6_5⟩) (by assumption) ?rest6_5
  case hy6_5=>(intro w q;obtain ⟨k0,k1,k2,k3⟩:=PR57.out w q;go_simp;try with_reducible rfl)
  refine layy ?_;refine' wpAnyH_take (i:=7) (v:=?v7_6) rfl (by kernel_rfl) (by kernel_rfl) (by kernel_rfl) (fun _ _ _ h=>h) (Or.inl ⟨by rfl, ?hy7_6⟩) (by assumption) ?rest7_6
  case hy7_6=>(intro w q;obtain ⟨k0,k1,k2,k3⟩:=PR57.out w q;go_simp;try with_reducible rfl)
  refine layy ?_;refine' wpAnyH_take (i:=8) (v:=?v8_7) rfl (by kernel_rfl) (by kernel_rfl) (by kernel_rfl) (fun _ _ _ h=>h) (Or.inl ⟨by rfl, ?hy8_7⟩) (by assumption) ?rest8_7
  case hy8_7=>(intro w q;obtain ⟨k0,k1,k2,k3⟩:=PR57.out w q;go_simp;try with_reducible rfl)
  refine layy ?_;refine' wpAnyH_take (i:=9) (v:=?v9_8) rfl (by kernel_rfl) (by kernel_rfl) (by kernel_rfl) (fun _ _ _ h=>h) (Or.inl ⟨by rfl, ?hy9_8⟩) (by assumption) ?rest9_8
  case hy9_8=>(intro w q;obtain ⟨k0,k1,k2,k3⟩:=PR57.out w q;go_simp;try with_reducible rfl)
  refine layy ?_;refine wpAnyH_slots [2,5,10,11,12,13,14,15,16,17,18] [12,15,20,21,9,22,23,24,5,6,7] (fun L vs W=>∃ v1 v2 v3 v4 v5 v6 v7 v8 v9 v10 v11:Value,vs=[v1,v2,v3,v4,v5,v6,v7,v8,v9,v10,v11]/\Ext w0 W/\Came (L 2) (IntsIn w z v1 W)/\Came (L 5) (IntsIn w o v2 W)/\Came (L 10) (ActsIn acts v3 W)/\Came (L 11) (PlayIn n s'.S.words v4 W)/\Came (L 12) (L 11=true/\v5=((fun v=>v)) v4)/\Came (L 13) (L 11=true/\v6=((fun v=>tg v 0)) v4)/\Came (L 14) (L 11=true/\v7=((fun v=>tg v 1)) v4)/\Came (L 15) (L 11=true/\v8=((fun v=>tg v 2)) v4)/\Came (L 16) (L 11=true/\v9=((fun v=>tg v 0)) v4)/\Came (L 17) (L 11=true/\v10=((fun v=>tg v 1)) v4)/\Came (L 18) (L 11=true/\v11=((fun v=>tg v 2)) v4)) (by kernel_rfl) (by kernel_rfl) ?h0w1 ?hstepsw1 ?hendw1
  case h0w1=>exact ⟨_,_,_,_,_,_,_,_,_,_,_,rfl,hS,(fun h=>by cases h),(fun h=>by cases h),(fun h=>by cases h),(fun h=>by cases h),(fun h=>by cases h),(fun h=>by cases h),(fun h=>by cases h),(fun h=>by cases h),(fun h=>by cases h),(fun h=>by cases h),(fun h=>by cases h)⟩
  case hstepsw1=>
   refine StepsInv.cons rfl ?_ (StepsInv.cons rfl ?_ (StepsInv.cons rfl ?_ (StepsInv.cons rfl ?_ (StepsInv.cons rfl ?_ (StepsInv.cons rfl ?_ (StepsInv.cons rfl ?_ (StepsInv.cons rfl ?_ (StepsInv.cons rfl ?_ (StepsInv.cons rfl ?_ (StepsInv.cons rfl ?_ StepsInv.nil))))))))))
   all_goals (try simp only [List.getElem_toArray,List.getElem_cons_zero,List.getElem_cons_succ])
   all_goals
    rintro L a w ⟨vs,ha,v1,v2,v3,v4,v5,v6,v7,v8,v9,v10,v11,rfl,hE,J1,J2,J3,J4,J5,J6,J7,J8,J9,J10,J11⟩ hL hC;obtain rfl:=ha;intro K' hK
    (try simp only [putAll,Act.put,List.setIfInBounds_toArray,List.set_cons_zero,List.set_cons_succ])
   . skip
     go_simp
     go_at_call 17
     refine (ints_in (w:=w) (H.out.ext hE).sizes H.out.n1 (by omega)).mono ?_;rintro e x ⟨v,rfl,hP,y⟩
     go_wp2_with fail
     exact hK.out _ _ (hE.trans y) ⟨[v,v2,v3,v4,v5,v6,v7,v8,v9,v10,v11],by simp only [putAll,Act.put,List.setIfInBounds_toArray,List.set_cons_zero,List.set_cons_succ,tg3_0,tg3_1,tg3_2,tg2_0,tg2_1],_,_,_,_,_,_,_,_,_,_,_,rfl,hE.trans y,(fun _=>hP),(fun h=>IntsIn.ext (J2 h) y),(fun h=>ActsIn.ext (J3 h) y),(fun h=>PlayIn.ext (J4 h) y),J5,J6,J7,J8,J9,J10,J11⟩
   . skip
     go_simp
     go_at_call 17
     refine (ints_in (w:=w) (H.out.ext hE).order H.out.n2 (by omega)).mono ?_;rintro e x ⟨v,rfl,hP,y⟩
     go_wp2_with fail
     exact hK.out _ _ (hE.trans y) ⟨[v1,v,v3,v4,v5,v6,v7,v8,v9,v10,v11],by simp only [putAll,Act.put,List.setIfInBounds_toArray,List.set_cons_zero,List.set_cons_succ,tg3_0,tg3_1,tg3_2,tg2_0,tg2_1],_,_,_,_,_,_,_,_,_,_,_,rfl,hE.trans y,(fun h=>IntsIn.ext (J1 h) y),(fun _=>hP),(fun h=>ActsIn.ext (J3 h) y),(fun h=>PlayIn.ext (J4 h) y),J5,J6,J7,J8,J9,J10,J11⟩
   . skip
     go_simp
     go_at_call 31
     refine (acts_in (H.out.ext hE).acts HR.out.few HR.out.short (H.out.ext hE).n3).mono ?_;rintro e x ⟨v,rfl,hP,y⟩
     go_wp2_with fail
     exact hK.out _ _ (hE.trans y) ⟨[v1,v2,v,v4,v5,v6,v7,v8,v9,v10,v11],by simp only [putAll,Act.put,List.setIfInBounds_toArray,List.set_cons_zero,List.set_cons_succ,tg3_0,tg3_1,tg3_2,tg2_0,tg2_1],_,_,_,_,_,_,_,_,_,_,_,rfl,hE.trans y,(fun h=>IntsIn.ext (J1 h) y),(fun h=>IntsIn.ext (J2 h) y),(fun _=>hP),(fun h=>PlayIn.ext (J4 h) y),J5,J6,J7,J8,J9,J10,J11⟩
   . skip
     (obtain ⟨p1,c1',rfl,s1,k1⟩:=J1 (hC ⟨2,.data⟩ (by simp) rfl);obtain ⟨p2,c2',rfl,s2,k2⟩:=J2 (hC ⟨5,.data⟩ (by simp) rfl);obtain ⟨p3,c3',rfl,s3⟩:=J3 (hC ⟨10,.data⟩ (by simp) rfl))
     go_simp
     go_at_call 30
     refine (play_in s1 s2 k1 k2 HR.out HS.out s3 HPL.out EQ.out.2.2).mono ?_;rintro e x ⟨v,rfl,hP,y⟩
     go_wp2_with fail
     exact hK.out _ _ (hE.trans y) ⟨[.slice p1 z.length c1',.slice p2 o.length c2',.slice p3 acts.length c3',v,v5,v6,v7,v8,v9,v10,v11],by simp only [putAll,Act.put,List.setIfInBounds_toArray,List.set_cons_zero,List.set_cons_succ,tg3_0,tg3_1,tg3_2,tg2_0,tg2_1],_,_,_,_,_,_,_,_,_,_,_,rfl,hE.trans y,(fun h=>IntsIn.ext (J1 h) y),(fun h=>IntsIn.ext (J2 h) y),(fun h=>ActsIn.ext (J3 h) y),(fun _=>hP),(fun h=>absurd (J5 h).1 (by rw [hL];exact Bool.false_ne_true)),(fun h=>absurd (J6 h).1 (by rw [hL];exact Bool.false_ne_true)),(fun h=>absurd (J7 h).1 (by rw [hL];exact Bool.false_ne_true)),(fun h=>absurd (J8 h).1 (by rw [hL];exact Bool.false_ne_true)),(fun h=>absurd (J9 h).1 (by rw [hL];exact Bool.false_ne_true)),(fun h=>absurd (J10 h).1 (by rw [hL];exact Bool.false_ne_true)),(fun h=>absurd (J11 h).1 (by rw [hL];exact Bool.false_ne_true))⟩
   . skip
     have hl:L 11=true:=hC ⟨11,.data⟩ (by simp) rfl;have q:=J4 hl;obtain ⟨pp,pm,pc,gg,pcap,rfl,sq⟩:=q;go_simp;exact hK.out _ _ hE ⟨[v1,v2,v3,.tuple #[.slice pp pm pc,.slice (some ⟨gg,0,none⟩) n pcap,.int .i64 0],.tuple #[.slice pp pm pc,.slice (some ⟨gg,0,none⟩) n pcap,.int .i64 0],v6,v7,v8,v9,v10,v11],by simp only [putAll,Act.put,List.setIfInBounds_toArray,List.set_cons_zero,List.set_cons_succ,tg3_0,tg3_1,tg3_2,tg2_0,tg2_1],_,_,_,_,_,_,_,_,_,_,_,rfl,hE,J1,J2,J3,J4,(fun _=>⟨hl,rfl⟩),J6,J7,J8,J9,J10,J11⟩
   . skip
     obtain ⟨hl,rfl⟩:=J5 (hC ⟨12,.data⟩ (by simp) rfl);have q:=J4 hl;obtain ⟨pp,pm,pc,gg,pcap,rfl,sq⟩:=q;go_simp;exact hK.out _ _ hE ⟨[v1,v2,v3,.tuple #[.slice pp pm pc,.slice (some ⟨gg,0,none⟩) n pcap,.int .i64 0],.tuple #[.slice pp pm pc,.slice (some ⟨gg,0,none⟩) n pcap,.int .i64 0],.slice pp pm pc,v7,v8,v9,v10,v11],by simp only [putAll,Act.put,List.setIfInBounds_toArray,List.set_cons_zero,List.set_cons_succ,tg3_0,tg3_1,tg3_2,tg2_0,tg2_1],_,_,_,_,_,_,_,_,_,_,_,rfl,hE,J1,J2,J3,J4,J5,(fun _=>⟨hl,rfl⟩),J7,J8,J9,J10,J11⟩
   . skip
     obtain ⟨hl,rfl⟩:=J5 (hC ⟨12,.data⟩ (by simp) rfl);have q:=J4 hl;obtain ⟨pp,pm,pc,gg,pcap,rfl,sq⟩:=q;go_simp;exact hK.out _ _ hE ⟨[v1,v2,v3,.tuple #[.slice pp pm pc,.slice (some ⟨gg,0,none⟩) n pcap,.int .i64 0],.tuple #[.slice pp pm pc,.slice (some ⟨gg,0,none⟩) n pcap,.int .i64 0],v6,.slice (some ⟨gg,0,none⟩) n pcap,v8,v9,v10,v11],by simp only [putAll,Act.put,List.setIfInBounds_toArray,List.set_cons_zero,List.set_cons_succ,tg3_0,tg3_1,tg3_2,tg2_0,tg2_1],_,_,_,_,_,_,_,_,_,_,_,rfl,hE,J1,J2,J3,J4,J5,J6,(fun _=>⟨hl,rfl⟩),J8,J9,J10,J11⟩
   . skip
     obtain ⟨hl,rfl⟩:=J5 (hC ⟨12,.data⟩ (by simp) rfl);have q:=J4 hl;obtain ⟨pp,pm,pc,gg,pcap,rfl,sq⟩:=q;go_simp;exact hK.out _ _ hE ⟨[v1,v2,v3,.tuple #[.slice pp pm pc,.slice (some ⟨gg,0,none⟩) n pcap,.int .i64 0],.tuple #[.slice pp pm pc,.slice (some ⟨gg,0,none⟩) n pcap,.int .i64 0],v6,v7,.int .i64 0,v9,v10,v11],by simp only [putAll,Act.put,List.setIfInBounds_toArray,List.set_cons_zero,List.set_cons_succ,tg3_0,tg3_1,tg3_2,tg2_0,tg2_1],_,_,_,_,_,_,_,_,_,_,_,rfl,hE,J1,J2,J3,J4,J5,J6,J7,(fun _=>⟨hl,rfl⟩),J9,J10,J11⟩
   . skip
     obtain ⟨hl,rfl⟩:=J6 (hC ⟨13,.data⟩ (by simp) rfl);have q:=J4 hl;obtain ⟨pp,pm,pc,gg,pcap,rfl,sq⟩:=q;go_simp;exact hK.out _ _ hE ⟨[v1,v2,v3,.tuple #[.slice pp pm pc,.slice (some ⟨gg,0,none⟩) n pcap,.int .i64 0],v5,.slice pp pm pc,v7,v8,.slice pp pm pc,v10,v11],by simp only [putAll,Act.put,List.setIfInBounds_toArray,List.set_cons_zero,List.set_cons_succ,tg3_0,tg3_1,tg3_2,tg2_0,tg2_1],_,_,_,_,_,_,_,_,_,_,_,rfl,hE,J1,J2,J3,J4,J5,J6,J7,J8,(fun _=>⟨hl,rfl⟩),J10,J11⟩
   . skip
     obtain ⟨hl,rfl⟩:=J7 (hC ⟨14,.data⟩ (by simp) rfl);have q:=J4 hl;obtain ⟨pp,pm,pc,gg,pcap,rfl,sq⟩:=q;go_simp;exact hK.out _ _ hE ⟨[v1,v2,v3,.tuple #[.slice pp pm pc,.slice (some ⟨gg,0,none⟩) n pcap,.int .i64 0],v5,v6,.slice (some ⟨gg,0,none⟩) n pcap,v8,v9,.slice (some ⟨gg,0,none⟩) n pcap,v11],by simp only [putAll,Act.put,List.setIfInBounds_toArray,List.set_cons_zero,List.set_cons_succ,tg3_0,tg3_1,tg3_2,tg2_0,tg2_1],_,_,_,_,_,_,_,_,_,_,_,rfl,hE,J1,J2,J3,J4,J5,J6,J7,J8,J9,(fun _=>⟨hl,rfl⟩),J11⟩
   skip
   obtain ⟨hl,rfl⟩:=J8 (hC ⟨15,.data⟩ (by simp) rfl);have q:=J4 hl;obtain ⟨pp,pm,pc,gg,pcap,rfl,sq⟩:=q;go_simp;exact hK.out _ _ hE ⟨[v1,v2,v3,.tuple #[.slice pp pm pc,.slice (some ⟨gg,0,none⟩) n pcap,.int .i64 0],v5,v6,v7,.int .i64 0,v9,v10,.int .i64 0],by simp only [putAll,Act.put,List.setIfInBounds_toArray,List.set_cons_zero,List.set_cons_succ,tg3_0,tg3_1,tg3_2,tg2_0,tg2_1],_,_,_,_,_,_,_,_,_,_,_,rfl,hE,J1,J2,J3,J4,J5,J6,J7,J8,J9,J10,(fun _=>⟨hl,rfl⟩)⟩
  rintro L _ w1 ⟨v1,v2,v3,v4,v5,v6,v7,v8,v9,v10,v11,rfl,Ew1,J1,J2,J3,J4,J5,J6,J7,J8,J9,J10,J11⟩ hall;replace J1:=J1 (hall 2 (by simp));replace J2:=J2 (hall 5 (by simp));replace J3:=J3 (hall 10 (by simp));replace J4:=J4 (hall 11 (by simp));replace J5:=J5 (hall 12 (by simp));replace J6:=J6 (hall 13 (by simp));replace J7:=J7 (hall 14 (by simp));replace J8:=J8 (hall 15 (by simp));replace J9:=J9 (hall 16 (by simp));replace J10:=J10 (hall 17 (by simp));replace J11:=J11 (hall 18 (by simp));clear hall;obtain ⟨-,rfl⟩:=J5;obtain ⟨-,rfl⟩:=J6;obtain ⟨-,rfl⟩:=J7;obtain ⟨-,rfl⟩:=J8;obtain ⟨-,rfl⟩:=J9;obtain ⟨-,rfl⟩:=J10;obtain ⟨-,rfl⟩:=J11;simp only [putAll,Act.put,List.setIfInBounds_toArray,List.set_cons_zero,List.set_cons_succ];obtain ⟨q1,d1,rfl,-⟩:=J1;obtain ⟨q2,d2,rfl,-⟩:=J2;obtain ⟨q3,d3,rfl,-⟩:=J3;obtain ⟨p4,m4,d4,g,cap,rfl,SW⟩:=J4;simp only [tg3_0,tg3_1,tg3_2];have b0:=(Ew1.cell z0 0).trans c0;have b1:=(Ew1.cell z0 1).trans c1;have b2:=(Ew1.cell z0 2).trans c2;have SWh:=hZ SW;clear SW;go_upto_region 4 with (go_at_call 19;refine (check_is EQ.out.1 EQ.out.2.1 EQ.out.2.2 (H.out.ext Ew1).sizes (H.out.ext Ew1).order SWh.out HW.out).mono ?_;rintro e w2 ⟨rfl,hb2⟩)
  have H2:=hZ (H.out.ext (Ew1.trans hb2));have SW2:=hZ (SWh.out.ext hb2);have d0':=(hb2.cell (cell_lt b0) 0).trans b0;have d1':=(hb2.cell (cell_lt b0) 1).trans b1;have zz:=cell_lt d0';have EW2:=hZ (HE0.out.trans (Ew1.trans hb2));clear b0 b1 b2 c0 c1 c2 c3 z0 SWh HE0 H Ew1 hb2;have PR58:=hZ (fun (ww:World) (hSw:Ext w2 ww)=>And.intro ((hSw.cell zz 0).trans d0') ((hSw.cell zz 1).trans d1'));refine wp_region_held_drew (S:=fun W=>Ext w2 W) (by kernel_rfl) ?_ (fun hS=>?_)
  . exact exx
  refine' wpAnyH_take (i:=0) (v:=?v0_9) rfl (by kernel_rfl) (by kernel_rfl) (by kernel_rfl) (fun _ _ _ h=>h) (Or.inl ⟨by rfl, ?hy0_9⟩) (by assumption) ?rest0_9
  case hy0_9=>(intro w q;obtain ⟨k0,k1⟩:=PR58.out w q;go_simp;try with_reducible rfl)
  refine layy ?_;refine' wpAnyH_take (i:=1) (v:=?v1_10) rfl (by kernel_rfl) (by kernel_rfl) (by kernel_rfl) (fun _ _ _ h=>h) (Or.inl ⟨by rfl, ?hy1_10⟩) (by assumption) ?rest1_10
  case hy1_10=>(intro w q;obtain ⟨k0,k1⟩:=PR58.out w q;go_simp;try with_reducible rfl)
  refine layy ?_;refine' wpAnyH_take (i:=3) (v:=?v3_11) rfl (by kernel_rfl) (by kernel_rfl) (by kernel_rfl) (fun _ _ _ h=>h) (Or.inl ⟨by rfl, ?hy3_11⟩) (by assumption) ?rest3_11
  case hy3_11=>(intro w q;obtain ⟨k0,k1⟩:=PR58.out w q;go_simp;try with_reducible rfl)
  refine layy ?_;refine' wpAnyH_take (i:=4) (v:=?v4_12) rfl (by kernel_rfl) (by kernel_rfl) (by kernel_rfl) (fun _ _ _ h=>h) (Or.inl ⟨by rfl, ?hy4_12⟩) (by assumption) ?rest4_12
  case hy4_12=>(intro w q;obtain ⟨k0,k1⟩:=PR58.out w q;go_simp;try with_reducible rfl)
  refine layy ?_;refine' wpAnyH_take (i:=6) (v:=?v6_13) rfl (by kernel_rfl) (by kernel_rfl) (by kernel_rfl) (fun _ _ _ h=>h) (Or.inl ⟨by rfl, ?hy6_13⟩) (by assumption) ?rest6_13
  case hy6_13=>(intro w q;obtain ⟨k0,k1⟩:=PR58.out w q;go_simp;try with_reducible rfl)
  refine layy ?_;refine wpAnyH_slots [2,5,7,8,9,10,11,12,13] [46,49,51,52,43,53,54,8,7] (fun L vs W=>∃ v1 v2 v3 v4 v5 v6 v7 v8 v9:Value,vs=[v1,v2,v3,v4,v5,v6,v7,v8,v9]/\Ext w2 W/\Came (L 2) (IntsIn w z v1 W)/\Came (L 5) (IntsIn w o v2 W)/\Came (L 7) (WordsIn n s'.S.words v3 W)/\Came (L 8) (LoadIn w2 s'.S v4 W)/\Came (L 9) (L 8=true/\v5=((fun v=>v)) v4)/\Came (L 10) (L 8=true/\v6=((fun v=>tg v 0)) v4)/\Came (L 11) (L 8=true/\v7=((fun v=>tg v 1)) v4)/\Came (L 12) (L 8=true/\v8=((fun v=>tg v 0)) v4)/\Came (L 13) (L 8=true/\v9=((fun v=>tg v 1)) v4)) (by kernel_rfl) (by kernel_rfl) ?h0w3 ?hstepsw3 ?hendw3
  case h0w3=>exact ⟨_,_,_,_,_,_,_,_,_,rfl,hS,(fun h=>by cases h),(fun h=>by cases h),(fun h=>by cases h),(fun h=>by cases h),(fun h=>by cases h),(fun h=>by cases h),(fun h=>by cases h),(fun h=>by cases h),(fun h=>by cases h)⟩
  case hstepsw3=>
   refine StepsInv.cons rfl ?_ (StepsInv.cons rfl ?_ (StepsInv.cons rfl ?_ (StepsInv.cons rfl ?_ (StepsInv.cons rfl ?_ (StepsInv.cons rfl ?_ (StepsInv.cons rfl ?_ (StepsInv.cons rfl ?_ (StepsInv.cons rfl ?_ StepsInv.nil))))))))
   all_goals (try simp only [List.getElem_toArray,List.getElem_cons_zero,List.getElem_cons_succ])
   all_goals
    rintro L a w ⟨vs,ha,v1,v2,v3,v4,v5,v6,v7,v8,v9,rfl,hE,J1,J2,J3,J4,J5,J6,J7,J8,J9⟩ hL hC;obtain rfl:=ha;intro K' hK
    (try simp only [putAll,Act.put,List.setIfInBounds_toArray,List.set_cons_zero,List.set_cons_succ])
   . skip
     go_simp
     go_at_call 17
     refine (ints_in (w:=w) (H2.out.ext hE).sizes H2.out.n1 (by omega)).mono ?_;rintro e x ⟨v,rfl,hP,y⟩
     go_wp2_with fail
     exact hK.out _ _ (hE.trans y) ⟨[v,v2,v3,v4,v5,v6,v7,v8,v9],by simp only [putAll,Act.put,List.setIfInBounds_toArray,List.set_cons_zero,List.set_cons_succ,tg3_0,tg3_1,tg3_2,tg2_0,tg2_1],_,_,_,_,_,_,_,_,_,rfl,hE.trans y,(fun _=>hP),(fun h=>IntsIn.ext (J2 h) y),(fun h=>WordsIn.ext (J3 h) y),(fun h=>LoadIn.ext (J4 h) y),J5,J6,J7,J8,J9⟩
   . skip
     go_simp
     go_at_call 17
     refine (ints_in (w:=w) (H2.out.ext hE).order H2.out.n2 (by omega)).mono ?_;rintro e x ⟨v,rfl,hP,y⟩
     go_wp2_with fail
     exact hK.out _ _ (hE.trans y) ⟨[v1,v,v3,v4,v5,v6,v7,v8,v9],by simp only [putAll,Act.put,List.setIfInBounds_toArray,List.set_cons_zero,List.set_cons_succ,tg3_0,tg3_1,tg3_2,tg2_0,tg2_1],_,_,_,_,_,_,_,_,_,rfl,hE.trans y,(fun h=>IntsIn.ext (J1 h) y),(fun _=>hP),(fun h=>WordsIn.ext (J3 h) y),(fun h=>LoadIn.ext (J4 h) y),J5,J6,J7,J8,J9⟩
   . skip
     go_simp
     go_at_call 17
     refine (words_in EQ.out.2.2 (SW2.out.ext hE) (by omega) (by omega)).mono ?_;rintro e x ⟨v,rfl,hP,y⟩
     go_wp2_with fail
     exact hK.out _ _ (hE.trans y) ⟨[v1,v2,v,v4,v5,v6,v7,v8,v9],by simp only [putAll,Act.put,List.setIfInBounds_toArray,List.set_cons_zero,List.set_cons_succ,tg3_0,tg3_1,tg3_2,tg2_0,tg2_1],_,_,_,_,_,_,_,_,_,rfl,hE.trans y,(fun h=>IntsIn.ext (J1 h) y),(fun h=>IntsIn.ext (J2 h) y),(fun _=>hP),(fun h=>LoadIn.ext (J4 h) y),J5,J6,J7,J8,J9⟩
   . skip
     (obtain ⟨p1,c1',rfl,s1,k1⟩:=J1 (hC ⟨2,.data⟩ (by simp) rfl);obtain ⟨p2,c2',rfl,s2,k2⟩:=J2 (hC ⟨5,.data⟩ (by simp) rfl);obtain ⟨p3,c3',rfl,s3⟩:=J3 (hC ⟨7,.data⟩ (by simp) rfl))
     go_simp
     go_at_call 16
     refine (load_in EQ.out.1 EQ.out.2.1 EQ.out.2.2 s1 s2 s3 k1 k2 HW.out HR.out.err hE).mono ?_;rintro e x ⟨v,rfl,hP,y⟩
     go_wp2_with fail
     exact hK.out _ _ (hE.trans y) ⟨[.slice p1 z.length c1',.slice p2 o.length c2',.slice (some ⟨p3,0,none⟩) n c3',v,v5,v6,v7,v8,v9],by simp only [putAll,Act.put,List.setIfInBounds_toArray,List.set_cons_zero,List.set_cons_succ,tg3_0,tg3_1,tg3_2,tg2_0,tg2_1],_,_,_,_,_,_,_,_,_,rfl,hE.trans y,(fun h=>IntsIn.ext (J1 h) y),(fun h=>IntsIn.ext (J2 h) y),(fun h=>WordsIn.ext (J3 h) y),(fun _=>hP),(fun h=>absurd (J5 h).1 (by rw [hL];exact Bool.false_ne_true)),(fun h=>absurd (J6 h).1 (by rw [hL];exact Bool.false_ne_true)),(fun h=>absurd (J7 h).1 (by rw [hL];exact Bool.false_ne_true)),(fun h=>absurd (J8 h).1 (by rw [hL];exact Bool.false_ne_true)),(fun h=>absurd (J9 h).1 (by rw [hL];exact Bool.false_ne_true))⟩
   . skip
     have hl:L 8=true:=hC ⟨8,.data⟩ (by simp) rfl;have q:=J4 hl;obtain ⟨dd,rfl,sq⟩:=q;go_simp;exact hK.out _ _ hE ⟨[v1,v2,v3,.tuple #[.pointer (some ⟨dd.hb,0,none⟩),.int .i64 0],.tuple #[.pointer (some ⟨dd.hb,0,none⟩),.int .i64 0],v6,v7,v8,v9],by simp only [putAll,Act.put,List.setIfInBounds_toArray,List.set_cons_zero,List.set_cons_succ,tg3_0,tg3_1,tg3_2,tg2_0,tg2_1],_,_,_,_,_,_,_,_,_,rfl,hE,J1,J2,J3,J4,(fun _=>⟨hl,rfl⟩),J6,J7,J8,J9⟩
   . skip
     obtain ⟨hl,rfl⟩:=J5 (hC ⟨9,.data⟩ (by simp) rfl);have q:=J4 hl;obtain ⟨dd,rfl,sq⟩:=q;go_simp;exact hK.out _ _ hE ⟨[v1,v2,v3,.tuple #[.pointer (some ⟨dd.hb,0,none⟩),.int .i64 0],.tuple #[.pointer (some ⟨dd.hb,0,none⟩),.int .i64 0],.pointer (some ⟨dd.hb,0,none⟩),v7,v8,v9],by simp only [putAll,Act.put,List.setIfInBounds_toArray,List.set_cons_zero,List.set_cons_succ,tg3_0,tg3_1,tg3_2,tg2_0,tg2_1],_,_,_,_,_,_,_,_,_,rfl,hE,J1,J2,J3,J4,J5,(fun _=>⟨hl,rfl⟩),J7,J8,J9⟩
   . skip
     obtain ⟨hl,rfl⟩:=J5 (hC ⟨9,.data⟩ (by simp) rfl);have q:=J4 hl;obtain ⟨dd,rfl,sq⟩:=q;go_simp;exact hK.out _ _ hE ⟨[v1,v2,v3,.tuple #[.pointer (some ⟨dd.hb,0,none⟩),.int .i64 0],.tuple #[.pointer (some ⟨dd.hb,0,none⟩),.int .i64 0],v6,.int .i64 0,v8,v9],by simp only [putAll,Act.put,List.setIfInBounds_toArray,List.set_cons_zero,List.set_cons_succ,tg3_0,tg3_1,tg3_2,tg2_0,tg2_1],_,_,_,_,_,_,_,_,_,rfl,hE,J1,J2,J3,J4,J5,J6,(fun _=>⟨hl,rfl⟩),J8,J9⟩
   . skip
     obtain ⟨hl,rfl⟩:=J6 (hC ⟨10,.data⟩ (by simp) rfl);have q:=J4 hl;obtain ⟨dd,rfl,sq⟩:=q;go_simp;exact hK.out _ _ hE ⟨[v1,v2,v3,.tuple #[.pointer (some ⟨dd.hb,0,none⟩),.int .i64 0],v5,.pointer (some ⟨dd.hb,0,none⟩),v7,.pointer (some ⟨dd.hb,0,none⟩),v9],by simp only [putAll,Act.put,List.setIfInBounds_toArray,List.set_cons_zero,List.set_cons_succ,tg3_0,tg3_1,tg3_2,tg2_0,tg2_1],_,_,_,_,_,_,_,_,_,rfl,hE,J1,J2,J3,J4,J5,J6,J7,(fun _=>⟨hl,rfl⟩),J9⟩
   skip
   obtain ⟨hl,rfl⟩:=J7 (hC ⟨11,.data⟩ (by simp) rfl);have q:=J4 hl;obtain ⟨dd,rfl,sq⟩:=q;go_simp;exact hK.out _ _ hE ⟨[v1,v2,v3,.tuple #[.pointer (some ⟨dd.hb,0,none⟩),.int .i64 0],v5,v6,.int .i64 0,v8,.int .i64 0],by simp only [putAll,Act.put,List.setIfInBounds_toArray,List.set_cons_zero,List.set_cons_succ,tg3_0,tg3_1,tg3_2,tg2_0,tg2_1],_,_,_,_,_,_,_,_,_,rfl,hE,J1,J2,J3,J4,J5,J6,J7,J8,(fun _=>⟨hl,rfl⟩)⟩
  rintro L _ w3 ⟨v1,v2,v3,v4,v5,v6,v7,v8,v9,rfl,Ew3,J1,J2,J3,J4,J5,J6,J7,J8,J9⟩ hall;replace J1:=J1 (hall 2 (by simp));replace J2:=J2 (hall 5 (by simp));replace J3:=J3 (hall 7 (by simp));replace J4:=J4 (hall 8 (by simp));replace J5:=J5 (hall 9 (by simp));replace J6:=J6 (hall 10 (by simp));replace J7:=J7 (hall 11 (by simp));replace J8:=J8 (hall 12 (by simp));replace J9:=J9 (hall 13 (by simp));clear hall;obtain ⟨-,rfl⟩:=J5;obtain ⟨-,rfl⟩:=J6;obtain ⟨-,rfl⟩:=J7;obtain ⟨-,rfl⟩:=J8;obtain ⟨-,rfl⟩:=J9;simp only [putAll,Act.put,List.setIfInBounds_toArray,List.set_cons_zero,List.set_cons_succ];obtain ⟨q4,d4',rfl,-⟩:=J1;obtain ⟨q5,d5,rfl,-⟩:=J2;obtain ⟨q6,d6,rfl,-⟩:=J3;obtain ⟨dd,rfl,hA,own,o1,o2⟩:=J4;simp only [tg2_0,tg2_1];have gl:=SW2.out.cells (by have:=EQ.out.2.2;omega);obtain ⟨gb',go',ge,glt,-⟩:=gl
  cases ge
  have lw:=EW2.out.le
  go_wp2_with fail
  go_returns;exact ⟨dd,s'.S,g,cap,_,_,rfl,⟨hA,EW2.out.trans Ew3,fun b hb=>Nat.le_trans lw (own b hb),fun hm=>by have:=own _ hm;omega,fun b o e=>Nat.le_trans lw (o1 b o e),fun b o e=>Nat.le_trans lw (o2 b o e),SW2.out.ext Ew3⟩,HW.out,EQ.out.1,EQ.out.2.1,EQ.out.2.2⟩
end Go.Proofs.YtdokmmhjmclmnaaGreat
