/-
  Part 3 of a proof: RegSeq HFn2 HFn3 RegTail HFn4 HMap2 HFn5 HFn6 HMap3 RegDo.
-/
import Derived.Deep.Draws
import Derived.Deep.LoopGhost
import Derived.Deep.RegionHeld3
import Derived.Shelf.RegionOpenPlain
import Derived.StillTail
import Derived.StillTailTactics
import Derived.WideKeyEntry
import Derived.Test.YtdokmmhjmclmnaaGreatMV01
import Derived.Test.YtdokmmhjmclmnaaGreatMV02
set_option linter.unusedSimpArgs false
set_option linter.unusedVariables false
set_option linter.unusedSectionVars false
set_option linter.unnecessarySimpa false
namespace Go.Proofs.YtdokmmhjmclmnaaGreat
variable {W' w w' w0 wb:World} {B a b base c cap ce cn f g gb i j k lb m n oc s sc:Nat} {choice t x:Int} {G W fs l o xs z:List Int} {S S':Hp.Hs} {A N T:List Nat} {M:List (Nat × Int)} {op p pe pn q sp:Option Addr} {d:Hd}
open Go
section
variable {P:Program} {ops:Array Oper} {Q:Exit->Act->World->Prop} {md:Region.Mode} {S:World->Prop} {R:World->World->Prop}
theorem wpOp_frame {oj:Oper} (hj:ops[j]? = some oj) {K:Act->World->Prop} {a:Act} (h:wpOp P ops Q j K a w) :
    wpOp P ops Q j (fun a' w'=>(∃ (u:Value) (d:List Deferred),a'=({ a with defers:=d }:Act).put oj.dst u)/\K a' w') a w:=by
  unfold wpOp at h ⊢;rw [hj] at h ⊢;simp only at h ⊢
  split
  . next hw=>
    rw [if_pos hw] at h
    rcases h with h | h
    . refine .inl ?_;unfold Oper.wp at h ⊢;generalize (execOp a.eval oj).run P w=r at h ⊢
      match r with
      | .ok (.value v) w'=>exact ⟨⟨v,a.defers,rfl⟩,h⟩
      | .ok .skip w'=>exact ⟨⟨undef,a.defers,rfl⟩,h⟩
      | .ok (.defer d) w'=>exact ⟨⟨undef,d :: a.defers,rfl⟩,h⟩
      | .ok (.enter f args) w'=>
       refine Calls.mono h fun e w'' he=>?_
       cases e with
       | returned u=>exact ⟨⟨u,a.defers,rfl⟩,he⟩
       | panicked c=>exact he
       | outgrown=>exact he
      | .ok (.row row args) w'=>exact Rows.mono h fun u w'' he=>⟨⟨u,a.defers,rfl⟩,he⟩
      | .halt x w'=>cases x <;> exact h
    exact .inr h
  next hw=>
  rw [if_neg hw] at h;exact ⟨⟨undef,a.defers,rfl⟩,h⟩
def YieldsOn (P:Program) (ops:Array Oper) (S:World->Prop) (R:World->World->Prop) (o:Oper) (v:Value) (a:Act):Prop:=
 YieldsIf P ops S o v a \/ (Region.wanted o (yielded ops a.tmps)=true /\ ∃ (f:FuncId) (args:Array Value),(∀ w,S w->(execOp a.eval o).run P w = .ok (.enter f args) w) /\
  ∀ w,S w->Calls P f args w fun e w'=>e = .returned v/\R w w'/\S w')
theorem YieldsOn.of_same {o:Oper} {v:Value} {a a':Act} (hy:YieldsOn P ops S R o v a) (he:execOp a'.eval o=execOp a.eval o)
    (hw:Region.wanted o (yielded ops a'.tmps)=Region.wanted o (yielded ops a.tmps)):YieldsOn P ops S R o v a':=by
  rcases hy with hy | hy
  . exact .inl (hy.of_same he hw)
  refine .inr ?_;rw [he,hw];exact hy
theorem YieldsOn.wpOp {i:Nat} {o:Oper} {v:Value} {a:Act} (hi:ops[i]? = some o) (hy:YieldsOn P ops S R o v a) (hR:∀ w,R w w)
    {K:Act->World->Prop} {w:World} (hS:S w) (h:∀ w',R w w'->S w'->K (a.put o.dst v) w'):wpOp P ops Q i K a w:=by
  rcases hy with hy | ⟨hw,f,args,he,hc⟩
  . exact hy.wpOp hi hS (h w (hR w) hS)
  unfold Go.wpOp;simp only [hi];rw [if_pos hw];refine .inl ?_;unfold Oper.wp;rw [he w hS];refine (hc w hS).mono ?_;rintro e w' ⟨rfl,h1,h2⟩;exact h w' h1 h2
theorem wpOp_putOn {oi oj:Oper} {v:Value} (hj:ops[j]? = some oj) (hap:oi.apart ops oj=true)
    (hsi:∀ cs b,oi.op ≠ .select cs b) (hsj:∀ cs b,oj.op ≠ .select cs b)
    (hQ:∀ c a w,Q (.panic c) (a.put oi.dst v) w->Q (.panic c) a w) {K:Act->World->Prop} {a:Act} {w:World}
    (hy:YieldsOn P ops S R oi v a) (h:wpOp P ops Q j K (a.put oi.dst v) w) :
    wpOp P ops Q j (fun a' w'=>YieldsOn P ops S R oi v a'/\K (a'.put oi.dst v) w') a w:=by
  have hy':YieldsIf P ops (fun _=>False) oi v a:=by
   rcases hy with hy | ⟨hw,-⟩
   . rcases hy with ⟨hw,-⟩ | hy
     . exact .inl ⟨hw,fun _ hf=>hf.elim⟩
     exact .inr hy
   exact .inl ⟨hw,fun _ hf=>hf.elim⟩
  obtain ⟨-,-,h3⟩:=Oper.apart_spec hap;refine wpOp_mono ?_ (wpOp_frame hj (wpOp_putIf hj hap hsi hsj hQ hy' h));rintro a' w' ⟨⟨u,d,rfl⟩,-,hk⟩;refine ⟨?_,hk⟩;have h4:YieldsOn P ops S R oi v ({ a with defers:=d }:Act):=hy.of_same rfl rfl;exact h4.of_same (execOp_put oi hsi _ oj.dst u h3) (wanted_put oi _ oj.dst u h3)
def wpAnyR (P:Program) (md:Region.Mode) (ops:Array Oper) (Q:Exit->Act->World->Prop) (S:World->Prop) (R:World->World->Prop):Nat->Array Bool->Act->World->Prop
 | 0,listed,a,w=>Region.ready md ops listed=[] /\ ∀ w',R w w'->S w'->Q .normal a w'
 | fuel+1,listed,a,w=>∀ w',R w w'->S w'->(Region.ready md ops listed=[]->Q .normal a w') /\
     ∀ i ∈ Region.ready md ops listed,wpOp P ops Q i (fun a' w''=>S w''/\wpAnyR P md ops Q S R fuel (listed.setIfInBounds i true) a' w'') a w'
theorem wpAnyR.mono (hT:∀ a b c,R a b->R b c->R a c):∀ {fuel:Nat} {listed:Array Bool} {a:Act} {w w1:World},R w w1->wpAnyR P md ops Q S R fuel listed a w->wpAnyR P md ops Q S R fuel listed a w1
 | 0,_,_,_,_,hr,h=>⟨h.1,fun w' r s=>h.2 w' (hT _ _ _ hr r) s⟩
 | _+1,_,_,_,_,hr,h=>fun w' r s=>h w' (hT _ _ _ hr r) s
theorem wpAny_of_R (hR:∀ w,R w w):∀ (fuel:Nat) (listed:Array Bool) (a:Act) (w:World),S w->wpAnyR P md ops Q S R fuel listed a w->wpAny P md ops Q fuel listed a w
 | 0,_,_,w,hS,h=>⟨h.1,h.2 w (hR w) hS⟩
 | _+1,_,_,w,hS,h=>⟨(h w (hR w) hS).1,fun i hi=>wpOp_mono (fun a' w' h'=>wpAny_of_R hR _ _ a' w' h'.1 h'.2) ((h w (hR w) hS).2 i hi)⟩
theorem wpAnyR_first {oi:Oper} {v:Value} (hR:∀ w,R w w) (hT:∀ a b c,R a b->R b c->R a c) (hi:ops[i]? = some oi) (hsel:∀ (j:Nat) (o:Oper) cs b,ops[j]? = some o->o.op ≠ .select cs b)
    (hQ:∀ c a w,Q (.panic c) (a.put oi.dst v) w->Q (.panic c) a w) :
    ∀ (fuel:Nat) (listed:Array Bool) (a:Act) (w:World),
     (∀ j oj,ops[j]? = some oj->j ≠ i->listed.getD j true=false->(∀ e ∈ oj.after,Region.binds md e=true->e.on ≠ i)->oi.apart ops oj=true) ->
     i ∈ Region.ready md ops listed->YieldsOn P ops S R oi v a ->
     wpAnyR P md ops Q S R fuel (listed.setIfInBounds i true) (a.put oi.dst v) w->wpAnyR P md ops Q S R (fuel+1) listed a w:=by
  intro fuel
  induction fuel with
  | zero=>
   intro listed a w _ hr hy H w' r s;refine ⟨fun h=>(by rw [h] at hr;cases hr),fun j hj=>?_⟩
   by_cases hji:j=i
   . subst hji;exact hy.wpOp hi hR s fun w'' r' s'=>⟨s',wpAnyR.mono hT (hT _ _ _ r r') H⟩
   have:=ready_mono hj hji;rw [H.1] at this
   cases this
  | succ fuel ih=>
   intro listed a w hfree hr hy H w' r s;refine ⟨fun h=>(by rw [h] at hr;cases hr),fun j hj=>?_⟩
   by_cases hji:j=i
   . subst hji;exact hy.wpOp hi hR s fun w'' r' s'=>⟨s',wpAnyR.mono hT (hT _ _ _ r r') H⟩
   have h1:=(H w' r s).2 j (ready_mono hj hji);obtain ⟨hjun,oj,hoj,hall⟩:=mem_ready.1 hj;have hun:listed.getD i true=false:=(mem_ready.1 hr).1;have hnot:∀ e ∈ oj.after,Region.binds md e=true->e.on ≠ i:=by
    intro e he hb heq;have h2:=hall e he hb;rw [heq] at h2
    by_cases hl:i < listed.size
    . simp only [Array.getD,hl,dif_pos] at hun h2;rw [hun] at h2;cases h2
    simp only [Array.getD,hl,dif_neg,not_false_eq_true] at h2;cases h2
   have h2:=wpOp_putOn hoj (hfree j oj hoj hji hjun hnot) (fun cs b=>hsel i oi cs b hi) (fun cs b=>hsel j oj cs b hoj) hQ hy h1;refine wpOp_mono ?_ h2;rintro a' w'' ⟨hy',hs',hk⟩;refine ⟨hs',ih (listed.setIfInBounds j true) a' w'' ?_ (ready_mono hr (Ne.symm hji)) hy' ?_⟩
   . intro k ok hk hki hu hno;refine hfree k ok hk hki ?_ hno
     by_cases hjk:j=k
     . subst hjk;exact hjun
     rw [getD_set_ne true hjk] at hu;exact hu
   rw [Array.setIfInBounds_comm _ _ hji];exact hk
theorem wpAnyR_take {oi:Oper} {v:Value} {fuel:Nat} {listed:Array Bool} {a:Act} (hR:∀ w,R w w) (hT:∀ a b c,R a b->R b c->R a c) (hi:ops[i]? = some oi)
    (hs:Region.noSelect ops=true) (hf:Region.free md ops listed i=true) (hr:(Region.ready md ops listed).contains i=true)
    (hQ:∀ c a w,Q (.panic c) (a.put oi.dst v) w->Q (.panic c) a w) (hy:YieldsOn P ops S R oi v a)
    (h:wpAnyR P md ops Q S R fuel (listed.setIfInBounds i true) (a.put oi.dst v) w):wpAnyR P md ops Q S R (fuel+1) listed a w:=
  wpAnyR_first hR hT hi (Region.noSelect_spec hs) hQ fuel listed a w (Region.free_spec hi hf) (by simpa using hr) hy h
theorem wpAnyR_done {listed:Array Bool} {a:Act} (hr:Region.ready md ops listed=[]) (h:∀ w',R w w'->S w'->Q .normal a w'):∀ fuel,wpAnyR P md ops Q S R fuel listed a w
 | 0=>⟨hr,h⟩
 | _+1=>fun w' r s=>⟨fun _=>h w' r s,by rw [hr];simp⟩
theorem wp_region_seq {id:Nat} {a:Act} (hm:P.follows .mixedOrders=true) (hR:∀ w,R w w) (hS:S w.drew)
    (h:wpAnyR P .any ops Q S R ops.size (Array.replicate ops.size false) a w.drew):(Code.region id ops true).wp P Q a w:=
  wp_region_any hm (wpAny_of_R hR _ _ _ _ hS h)
end
section
variable {P:Program} {ops:Array Oper} {Q:Exit->Act->World->Prop} {md:Region.Mode} {S:World->Prop}
theorem tkR (i:Nat) {oi:Oper} {v:Value} {fuel:Nat} {listed:Array Bool} {a:Act} (hi:ops[i]? = some oi) (hy:YieldsOn P ops S Ext oi v a) (h:wpAnyR P md ops Q S Ext fuel (listed.setIfInBounds i true) (a.put oi.dst v) w)
    (hs:Region.noSelect ops=true:=by kernel_rfl) (hf:Region.free md ops listed i=true:=by kernel_rfl) (hr:(Region.ready md ops listed).contains i=true:=by kernel_rfl) (hQ:∀ c a w,Q (.panic c) (a.put oi.dst v) w->Q (.panic c) a w:=by exact (fun _ _ _ h=>h)):wpAnyR P md ops Q S Ext (fuel+1) listed a w:=
  wpAnyR_take Ext.refl (fun _ _ _=>Ext.trans) hi hs hf hr hQ hy h
theorem tkO (i:Nat) {oi:Oper} {v:Value} {fuel:Nat} {listed:Array Bool} {a:Act} (hi:ops[i]? = some oi) (hy:∀ w,S w->(execOp a.eval oi).run P w = .ok (.value v) w) (h:wpAnyR P md ops Q S Ext fuel (listed.setIfInBounds i true) (a.put oi.dst v) w)
    (hw:Region.wanted oi (yielded ops a.tmps)=true:=by rfl) (hs:Region.noSelect ops=true:=by kernel_rfl) (hf:Region.free md ops listed i=true:=by kernel_rfl) (hr:(Region.ready md ops listed).contains i=true:=by kernel_rfl) (hQ:∀ c a w,Q (.panic c) (a.put oi.dst v) w->Q (.panic c) a w:=by exact (fun _ _ _ h=>h)):wpAnyR P md ops Q S Ext (fuel+1) listed a w:=
  wpAnyR_take Ext.refl (fun _ _ _=>Ext.trans) hi hs hf hr hQ (Or.inl (Or.inl ⟨hw,hy⟩)) h
theorem tkL (i:Nat) {oi:Oper} {v:Value} {q:Prop} {fuel:Nat} {listed:Array Bool} {a:Act} (h:q) (hi:ops[i]? = some oi:=by exact rfl) (hy:∀ w,S w->(execOp a.eval oi).run P w = .ok (.value v) w:=by intro w q;go_simp;try with_reducible rfl) (e:wpAnyR P md ops Q S Ext fuel (listed.setIfInBounds i true) (a.put oi.dst v) w=q:=by first | (simp only [List.getElem_toArray,List.getElem_cons_zero,List.getElem_cons_succ,Act.put,List.setIfInBounds_toArray,List.set_cons_zero,List.set_cons_succ];exact rfl) | exact rfl)
    (hw:Region.wanted oi (yielded ops a.tmps)=true:=by rfl) (hs:Region.noSelect ops=true:=by kernel_rfl) (hf:Region.free md ops listed i=true:=by kernel_rfl) (hr:(Region.ready md ops listed).contains i=true:=by kernel_rfl) (hQ:∀ c a w,Q (.panic c) (a.put oi.dst v) w->Q (.panic c) a w:=by exact (fun _ _ _ h=>h)):wpAnyR P md ops Q S Ext (fuel+1) listed a w:=
  wpAnyR_take Ext.refl (fun _ _ _=>Ext.trans) hi hs hf hr hQ (Or.inl (Or.inl ⟨hw,hy⟩)) (e.mpr h)
theorem tkN (i:Nat) {oi:Oper} {q:Prop} {fuel:Nat} {listed:Array Bool} {a:Act} (h:q) (hi:ops[i]? = some oi:=by exact rfl) (e:wpAnyR P md ops Q S Ext fuel (listed.setIfInBounds i true) (a.put oi.dst undef) w=q:=by first | (simp only [List.getElem_toArray,List.getElem_cons_zero,List.getElem_cons_succ,Act.put,List.setIfInBounds_toArray,List.set_cons_zero,List.set_cons_succ];exact rfl) | exact rfl)
    (hw:Region.wanted oi (yielded ops a.tmps)=false:=by rfl) (hs:Region.noSelect ops=true:=by kernel_rfl) (hf:Region.free md ops listed i=true:=by kernel_rfl) (hr:(Region.ready md ops listed).contains i=true:=by kernel_rfl) (hQ:∀ c a w,Q (.panic c) (a.put oi.dst undef) w->Q (.panic c) a w:=by exact (fun _ _ _ h=>h)):wpAnyR P md ops Q S Ext (fuel+1) listed a w:=
  wpAnyR_take Ext.refl (fun _ _ _=>Ext.trans) hi hs hf hr hQ (Or.inl (Or.inr ⟨hw,rfl⟩)) (e.mpr h)
theorem tkC {W0:World} (i:Nat) {oi:Oper} (v:Value) (f:FuncId) {args args2:Array Value} {q:Prop} {fuel:Nat} {listed:Array Bool} {a:Act} (hy:∀ w,Ext W0 w->Calls P f args w fun e w'=>e = .returned v/\Ext w w') (h:q) (hi:ops[i]? = some oi:=by exact rfl)
    (hx:∀ w,Ext W0 w->(execOp a.eval oi).run P w = .ok (.enter f args2) w:=by intro w q;go_simp;try with_reducible rfl) (ha:args2=args:=by exact rfl) (e:wpAnyR P md ops Q (fun W=>Ext W0 W) Ext fuel (listed.setIfInBounds i true) (a.put oi.dst v) w=q:=by first | (simp only [List.getElem_toArray,List.getElem_cons_zero,List.getElem_cons_succ,Act.put,List.setIfInBounds_toArray,List.set_cons_zero,List.set_cons_succ];exact rfl) | exact rfl)
    (hw:Region.wanted oi (yielded ops a.tmps)=true:=by rfl) (hs:Region.noSelect ops=true:=by kernel_rfl) (hf:Region.free md ops listed i=true:=by kernel_rfl) (hr:(Region.ready md ops listed).contains i=true:=by kernel_rfl) (hQ:∀ c a w,Q (.panic c) (a.put oi.dst v) w->Q (.panic c) a w:=by exact (fun _ _ _ h=>h)):wpAnyR P md ops Q (fun W=>Ext W0 W) Ext (fuel+1) listed a w:=
  wpAnyR_take Ext.refl (fun _ _ _=>Ext.trans) hi hs hf hr hQ (Or.inr ⟨hw,f,args,ha ▸ hx,fun w hE=>(hy w hE).mono (fun _ _ h=>⟨h.1,h.2,Ext.trans hE h.2⟩)⟩) (e.mpr h)
end
open Go.RowKit
theorem fields_some (h:S.fields a=some l):∃ (t:Int) (k:Nat),S.tag a=some t/\Hp.wide S.sizes t=some (4+k)/\l.length=k/\a+4+k<=S.words.length /\ ∀ j x,Hp.rd l j=some x->Hp.rd S.words (a+4+j)=some x:=by
 obtain ⟨m,hm,h⟩:=Option.bind_eq_some_iff.1 h
 obtain ⟨t,ht,hm⟩:=Option.bind_eq_some_iff.1 hm
 have hk:∃ k,m=4+k:=by
  rcases wide_some hm with ⟨_,rfl⟩ | ⟨_,i,s,_,_,rfl⟩
  . exact ⟨1,rfl⟩
  exact ⟨s,rfl⟩
 obtain ⟨k,rfl⟩:=hk
 unfold Hp.sub at h
 split at h
 case isFalse=>cases h
 rename_i hl
 cases h
 refine ⟨t,k,ht,hm,by simp;omega,by omega,fun j x hx=>?_⟩
 unfold Hp.rd at hx ⊢
 rw [List.getElem?_take] at hx
 split at hx
 . rw [List.getElem?_drop] at hx;exact hx
 cases hx
theorem fields_pos (h:HAt w d S) (hl:S.fields a=some l):0 < l.length:=by
 obtain ⟨t,k,ht,hw,rfl,hle,-⟩:=fields_some hl
 rcases wide_some hw with ⟨_,h1⟩ | ⟨_,i,s,_,hs,h1⟩
 . omega
 have:=h.pos s (List.mem_of_getElem? hs)
 omega
theorem wide_le (h:HAt w d S) (hw:Hp.wide S.sizes t=some k):5<=k/\k<=16:=by
 rcases wide_some hw with ⟨_,h1⟩ | ⟨_,i,s,_,hs,h1⟩
 . omega
 have:=h.pos s (List.mem_of_getElem? hs)
 omega
theorem fields_at (h:HAt w d S) (hl:S.fields a=some l):SliceAt w (some ⟨d.gw,a+4,none⟩) l.length l:=by
 obtain ⟨t,k,ht,hw,rfl,hle,hx⟩:=fields_some hl
 have:=h.le
 have:=h.cap
 exact ⟨Nat.le_refl _,by omega,fun x hm=>by
  obtain ⟨j,hj,rfl⟩:=List.getElem_of_mem hm;exact h.words.bound (hx j _ (List.getElem?_eq_getElem hj)),fun _=>⟨d.gw,a+4,rfl,h.words.lt,fun j x hj=>h.words.get (hx j x hj)⟩⟩
theorem fields_any (h:HAt w d S) (hl:S.fields a=some l) :
    Calls Tryz.prog 79 #[.pointer (some ⟨d.hb,0,none⟩),.int .i64 a] w fun e w'=>e = .returned (.slice (some ⟨d.gw,a+4,none⟩) l.length l.length)/\Ext w w':=by
  have h0:=fields_pos h hl;obtain ⟨t,k,ht,hw,rfl,hle,-⟩:=fields_some hl;have c0:=h.c0;have c1:=h.c1;have c2:=h.c2;have hlt:=h.lt;have hcap:=h.cap;have hle':=h.le;have H:=hZ h;clear h hl;go_enter Tryz.func79,Tryz.ntmps79;have e1:a+(4+l.length)-(a+4)=l.length:=by omega
  go_wp2_with fail
  have pr1a:=fun u_ (h_:Ext w u_)=>(h_.cell hlt 0).trans c0
  have pr1b:=fun u_ (h_:Ext w u_)=>(h_.cell hlt 1).trans c1
  have pr1c:=fun u_ (h_:Ext w u_)=>(h_.cell hlt 2).trans c2
  refine wp_region_seq (S:=fun W=>Ext w W) (R:=Ext) (by kernel_rfl) Ext.refl ?_ ?_
  . exact exx
  refine' tkL 0 ?_;refine' tkL 1 ?_;refine' tkL 2 ?_;refine' tkL 3 ?_;refine' tkL 4 ?_;refine' tkL 5 ?_;refine' tkL 6 ?_;refine' tkL 7 ?_;refine' tkL 8 ?_;refine' tkC 9 (.int .i64 t) 76 (fun w hE=>tag_any ((hE.cell hlt 2).trans c2) rfl hle' hcap (H.out.ext hE).words ht) ?_;refine' tkC 10 (.int .i64 (4+l.length:Nat)) 123 (fun w hE=>wide_any (H.out.ext hE).sizes hw (by omega)) ?_;refine' tkL 11 ?_;refine' tkL 12 ?_;refine' tkL 13 ?_;refine wpAnyR_done (by kernel_rfl) ?_ _;intro x1 _ Ex1;clear pr1a pr1b pr1c;have c2':=(Ex1.cell hlt 2).trans c2;go_wp2
  all_goals first
   | (exfalso;simp_all;done)
   | ((try simp only [e1]);go_returns;exact ⟨rfl,exx⟩)
   | (rw [e1];go_returns;exact ⟨rfl,exx⟩)
theorem kids_end (h:HAt w d S) (ht:S.tag a=some t) (he:Hp.isEnd t=true) :
    Calls Tryz.prog 80 #[.pointer (some ⟨d.hb,0,none⟩),.int .i64 a] w fun e w'=>e = .returned (.slice none 0 0)/\Ext w w':=by
  have H:=hZ h;clear h;go_enter Tryz.func80,Tryz.ntmps80
  go_wp2_with (first
   | (go_at_call 76;refine (tag_any H.out.c2 rfl H.out.le H.out.cap H.out.words ht).mono ?_;rintro e w1 ⟨rfl,hb1⟩;obtain ⟨hc1,hf1,hs1⟩:=hb1.cells)
   | (go_at_call 78;refine (isEnd_is he _).mono ?_;rintro e w2 ⟨rfl,hb2⟩;obtain ⟨hc2,hf2,hs2⟩:=hb2.cells))
  go_returns;exact ⟨rfl,exx⟩
theorem kids_node (h:HAt w d S) (ht:S.tag a=some t) (he:Hp.isEnd t=false) (hl:S.fields a=some l) :
    Calls Tryz.prog 80 #[.pointer (some ⟨d.hb,0,none⟩),.int .i64 a] w fun e w'=>e = .returned (.slice (some ⟨d.gw,a+4,none⟩) l.length l.length)/\Ext w w':=by
  have H:=hZ h;clear h;go_enter Tryz.func80,Tryz.ntmps80
  go_wp2_with (first
   | (go_at_call 76;refine (tag_any H.out.c2 rfl H.out.le H.out.cap H.out.words ht).mono ?_;rintro e w1 ⟨rfl,hb1⟩;obtain ⟨hc1,hf1,hs1⟩:=hb1.cells)
   | (go_at_call 78;refine (isEnd_is he _).mono ?_;rintro e w2 ⟨rfl,hb2⟩;obtain ⟨hc2,hf2,hs2⟩:=hb2.cells)
   | (go_at_call 79;refine (fields_any (H.out.ext (hb1.trans hb2)) hl).mono ?_;rintro e w3 ⟨rfl,hb3⟩;obtain ⟨hc3,hf3,hs3⟩:=hb3.cells))
  go_returns;exact ⟨rfl,exx⟩
theorem ck_some {y:Int} (h:Hp.ck x=some y):y=x /\ -4611686018427387904 < x/\x < 4611686018427387904:=by
 unfold Hp.ck at h
 split at h
 . cases h;rename_i hb;exact ⟨rfl,hb⟩
 cases h
theorem rc_some (h:Hp.rc W i=some x):Hp.rd W i=some x /\ -4611686018427387904 < x/\x < 4611686018427387904:=by
 obtain ⟨y,hy,h⟩:=Option.bind_eq_some_iff.1 h
 obtain ⟨rfl,h1⟩:=ck_some h
 exact ⟨hy,h1⟩
theorem tmod16 (n:Int) : -16 < n.tmod 16/\n.tmod 16 < 16/\n.tmod 16 % 16=max (n % 16) 0:=by
 by_cases h:0<=n
 . rw [Int.tmod_eq_emod_of_nonneg h];omega
 have e:n.tmod 16 = -((-n) % 16):=by
  have h2:=Int.neg_tmod (-n) 16;rw [Int.neg_neg,Int.tmod_eq_emod_of_nonneg (a:=-n) (by omega)] at h2;exact h2
 rw [e]
 omega
theorem chain_any (h:SliceAt w p c l) (hk:Hp.chain t l=some k) :
    Calls Tryz.prog 132 #[.int .i64 t,.slice p l.length c] w fun e w'=>e = .returned (.int .i64 k)/\Ext w w':=by
  simp only [Hp.chain,Option.bind_eq_bind,Option.bind_eq_some_iff,Option.pure_def,Option.some.injEq] at hk;obtain ⟨t',ht,n0,hn,r,hr,hk⟩:=hk;obtain ⟨rfl,ht1,ht2⟩:=ck_some ht;obtain ⟨rfl,hn1,hn2⟩:=ck_some hn;subst hk;have hle:=h.le;have hcap:=h.cap;have H:=hZ h;have HR:=hZ hr;clear h hr ht hn;generalize hL:l.length=n at hle ⊢;have HL:=hZ hL;clear hL;go_enter Tryz.func132,Tryz.ntmps132;go_wp2
  go_loop [5,12] (fun a i=>∃ (j:Nat) (m:Int),j<=n/\i = .int .i64 j/\a = .int .i64 m /\ -4611686018427387904 < m/\m < 4611686018427387904/\Hid (Hp.sums (l.drop j) j m=some r)) (fun _ i=>n-(intOf i).toNat)
  case atStart=>exact ⟨0,_,Nat.zero_le _,rfl,rfl,hn1,hn2,HR⟩
  case round=>
   obtain ⟨j,m,hj,rfl,rfl,hm1,hm2,HS⟩:=hrel
   by_cases hlt:j < n
   . have hjl:j < l.length:=by rw [HL.out];exact hlt
     have hs:=HS.out;rw [List.drop_eq_getElem_cons hjl] at hs;obtain ⟨f,hf,hs⟩:=Option.bind_eq_some_iff.1 hs;obtain ⟨m',hm',hs⟩:=Option.bind_eq_some_iff.1 hs;obtain ⟨hfe,hf1,hf2⟩:=ck_some hf;obtain ⟨rfl,hm3,hm4⟩:=ck_some hm';rw [<- hfe] at hf1 hf2;obtain ⟨b,o,rfl,hb,hc⟩:=H.out.cells (by omega);have g:=hc j f (by unfold Hp.rd;rw [List.getElem?_eq_getElem hjl,hfe]);have HT:=hZ hs;clear hs hf hfe hm' hc HS;generalize he:((j:Int)+1) * f=q at hm3 hm4 HT;have e2:wrap64 (((j:Int)+1) * f)=q:=by rw [he];exact IntWalk.wrap64_in _ ⟨by omega,by omega⟩
     clear he;go_wp2
     go_round
     case rel=>exact ⟨j+1,m+q,by omega,by go_num,rfl,hm3,hm4,HT⟩
     case measure=>simp [intOf];omega
   have:j=n:=by omega
   subst this;have hs:=HS.out;rw [List.drop_of_length_le (by rw [HL.out];exact Nat.le_refl _)] at hs;obtain rfl:m=r:=by simpa [Hp.sums] using hs
   clear hs HS HR;obtain ⟨q1,q2,q3⟩:=tmod16 m;have Q:=hZ q3;clear q3;go_wp2;go_returns;refine ⟨?_,exx⟩;show Ending.returned (Value.int IntKind.i64 (m.tmod 16 % 16))=_;rw [Q.out]
theorem index_hit (hk:Hp.rd l k=some x) (h:∀ j,j < k->Hp.rd l j ≠ some x):Hp.index l x=k:=by
 have e:l.findIdx? (· == x)=some k:=by
  rw [List.findIdx?_eq_some_iff_getElem];unfold Hp.rd at hk h;obtain ⟨hl,he⟩:=List.getElem?_eq_some_iff.1 hk;refine ⟨hl,by simp [he],fun j hj=>?_⟩;have:=h j hj;rw [List.getElem?_eq_getElem (by omega)] at this
  simpa using this
 simp [Hp.index,e]
theorem index_miss (h:∀ j,j < l.length->Hp.rd l j ≠ some x):Hp.index l x = -1:=by
 have e:l.findIdx? (· == x)=none:=by
  rw [List.findIdx?_eq_none_iff];intro y hy;obtain ⟨j,hj,rfl⟩:=List.getElem_of_mem hy;have:=h j hj;unfold Hp.rd at this;rw [List.getElem?_eq_getElem hj] at this
  simpa using this
 simp [Hp.index,e]
theorem rd_get (h:j < l.length):∃ x,Hp.rd l j=some x:=⟨l[j],List.getElem?_eq_getElem h⟩
theorem sIndex_any (h:SliceAt w p c l) :
    Calls Tryz.prog 169 #[.slice p l.length c,.int .i64 x] w fun e w'=>e = .returned (.int .i64 (Hp.index l x))/\Ext w w':=by
  have hle:=h.le;have hcap:=h.cap;have H:=hZ h;clear h;generalize hL:l.length=n at hle ⊢;have HL:=hZ hL;clear hL;go_enter Tryz.func169,Tryz.ntmps169;go_wp2
  go_loop [8] (fun i=>∃ j:Nat,j<=n/\i = .int .i64 j/\Aside (∀ m,m < j->Hp.rd l m ≠ some x)) (fun i=>n-(intOf i).toNat)
  case atStart=>exact ⟨0,Nat.zero_le _,rfl,fun m hm=>absurd hm (Nat.not_lt_zero _)⟩
  case round=>
   obtain ⟨j,hj,rfl,HA⟩:=hrel
   by_cases hlt:j < n
   . obtain ⟨f,hf⟩:=rd_get (l:=l) (j:=j) (by rw [HL.out];exact hlt);obtain ⟨b,o,rfl,hb,hc⟩:=H.out.cells (by rw [HL.out];omega);have g:=hc j f hf;have HF:=hZ hf;clear hf hc
     by_cases he:x=f
     . subst he;go_wp2;go_returns;exact ⟨by rw [index_hit HF.out HA.out];rfl,exx⟩
     have e1:(x == f)=false:=by simpa using he
     go_wp2
     go_round
     case rel=>
      refine ⟨j+1,by omega,by go_num,(show Aside _ from fun m hm=>?_)⟩
      by_cases e:m=j
      . subst e;rw [HF.out];intro h
        cases h
        exact he rfl
      exact HA.out m (by omega)
     case measure=>simp [intOf];omega
   have:j=n:=by omega
   subst this;go_wp2;go_returns;exact ⟨by rw [index_miss (by rw [HL.out];exact HA.out)];rfl,exx⟩
theorem eq_of_rd {m:List Int} (hl:l.length=m.length) (h:∀ j,j < l.length->Hp.rd l j=Hp.rd m j):l=m:=by
 apply List.ext_getElem? 
 intro i
 by_cases hi:i < l.length
 . exact h i hi
 rw [List.getElem?_eq_none (by omega),List.getElem?_eq_none (by omega)]
theorem sEqual_any {d:Nat} {m:List Int} (h:SliceAt w p c l) (k:SliceAt w q d m) :
    Calls Tryz.prog 101 #[.slice p l.length c,.slice q m.length d] w fun e w'=>e = .returned (.bool (decide (l=m)))/\Ext w w':=by
  by_cases hne:l.length=m.length
  case neg=>
   have e:decide (l=m)=false:=by
    apply decide_eq_false;intro e;exact hne (by rw [e])
   rw [e];have hle:=h.le;have hcap:=h.cap;have hle':=k.le;have hcap':=k.cap;clear h k e;generalize l.length=a at *;generalize m.length=b at *;have e1:((a:Int) == (b:Int))=false:=by simpa using (by omega:¬ (a:Int)=b)
   go_enter Tryz.func101,Tryz.ntmps101;go_wp2;go_returns;exact ⟨rfl,exx⟩
  case pos=>
   have hle:=h.le;have hcap:=h.cap;have hcap':=k.cap;have H:=hZ h;have K:=hZ k;clear h k;rw [<- hne];have HM:=hZ hne;clear hne;generalize hL:l.length=n at hle ⊢;have HL:=hZ hL;clear hL;have mixed:Tryz.prog.follows .mixedOrders=true:=by kernel_rfl
   go_enter Tryz.func101,Tryz.ntmps101;go_wp2
   go_loopg [13] n (fun g i wr=>∃ j:Nat,j<=n/\n-j<=g/\i = .int .i64 j/\Aside (Ext w wr)/\Aside (∀ i,i < j->Hp.rd l i=Hp.rd m i))
   case atStart=>exact ⟨0,Nat.zero_le _,by omega,rfl,Ext.refl w,fun m hm=>absurd hm (Nat.not_lt_zero _)⟩
   case round=>
    obtain ⟨j,hj,hg,rfl,HE,HA⟩:=hrel
    by_cases hlt:j < n
    . obtain ⟨f,hf⟩:=rd_get (l:=l) (j:=j) (by rw [HL.out];exact hlt);obtain ⟨f',hf'⟩:=rd_get (l:=m) (j:=j) (by rw [<- HM.out,HL.out];exact hlt);obtain ⟨b,o,rfl,hb,hc⟩:=(H.out.ext HE.out).cells (by rw [HL.out];omega);obtain ⟨b',o',rfl,hb',hc'⟩:=(K.out.ext HE.out).cells (by rw [<- HM.out,HL.out];omega);have g1:=hc j f hf;have g2:=hc' j f' hf';have HF:=hZ hf;have HF':=hZ hf';clear hf hc hf' hc'
      by_cases he:f=f'
      . subst he
        go_wp2_with fail
        go_region_o
        go_wp2
        go_roundg (n-(j+1))
        case measure=>omega
        case rel=>
         refine ⟨j+1,by omega,by omega,by go_num,(show Aside _ from HE.out.drew),(show Aside _ from fun i hi=>?_)⟩
         by_cases e:i=j
         . subst e;rw [HF.out,HF'.out]
         exact HA.out i (by omega)
      have e1:(f == f')=false:=by simpa using he
      go_wp2_with fail
      go_region_o
      go_wp2;go_returns;refine ⟨?_,HE.out.drew⟩;have e:decide (l=m)=false:=by
       apply decide_eq_false;rintro rfl;have:=HF.out;rw [HF'.out] at this
       cases this
       exact he rfl
      rw [e];rfl
    have:j=n:=by omega
    subst this;go_wp2;go_returns;refine ⟨?_,HE.out⟩;have e:decide (l=m)=true:=decide_eq_true (eq_of_rd HM.out (by rw [HL.out];exact HA.out));rw [e];rfl
theorem rank_any {d:Nat} {order:List Int} (hS:SliceAt w q d order) (ht1 : -9223372036854775808 < t) (ht2:t<=9223372036854775807) :
    Calls Tryz.prog 126 #[.agg #[.slice p n c,.slice q order.length d],.int .i64 t] w fun e w'=>e = .returned (.int .i64 (Hp.rank order t))/\Ext w w':=by
  have H:=hZ hS;clear hS
  cases he:Hp.isEnd t with
  | true=>
   have e1:Hp.rank order t=order.length:=by simp [Hp.rank,he]
   rw [e1];clear e1;have HE:=hZ he;clear he;go_enter Tryz.func126,Tryz.ntmps126
   go_wp2_with (go_at_call 78;refine (isEnd_is HE.out _).mono ?_;rintro e w1 ⟨rfl,hb1⟩;obtain ⟨hc1,hf1,hs1⟩:=hb1.cells;have hz1_0:w.heap.size < w1.heap.size:=(by have h:=hb1.le;(try simp at h);omega);have hc1_0:=hb1.cell (b:=w.heap.size) (by first | omega | (simp;done) | (simp;omega));have hf1_0:=hb1.frozen (b:=w.heap.size) (by first | omega | (simp;done) | (simp;omega)))
   refine bodyPost_ret (v:=.int .i64 order.length) (by simp [results,Tryz.results126,go_sem, *]) rfl ⟨rfl,exx⟩
  | false=>
   have e1:Hp.rank order t=Hp.index order (t-1):=by simp [Hp.rank,he]
   rw [e1];clear e1;have HE:=hZ he;clear he;go_enter Tryz.func126,Tryz.ntmps126
   go_wp2_with (first
    | (go_at_call 78;refine (isEnd_is HE.out _).mono ?_;rintro e w1 ⟨rfl,hb1⟩;obtain ⟨hc1,hf1,hs1⟩:=hb1.cells;have hz1_0:w.heap.size < w1.heap.size:=(by have h:=hb1.le;(try simp at h);omega);have hc1_0:=hb1.cell (b:=w.heap.size) (by first | omega | (simp;done) | (simp;omega));have hf1_0:=hb1.frozen (b:=w.heap.size) (by first | omega | (simp;done) | (simp;omega)))
    | (go_at_call 169;refine (sIndex_any (H.out.ext (exx:Ext w _))).mono ?_;rintro e w2 ⟨rfl,hb2⟩;obtain ⟨hc2,hf2,hs2⟩:=hb2.cells;have hz2_0:w.heap.size < w2.heap.size:=(by have h:=hb2.le;(try simp at h);omega);have hc2_0:=hb2.cell (b:=w.heap.size) (by first | omega | (simp;done) | (simp;omega));have hf2_0:=hb2.frozen (b:=w.heap.size) (by first | omega | (simp;done) | (simp;omega))))
   refine bodyPost_ret (v:=.int .i64 (Hp.index order (t-1))) (by simp [results,Tryz.results126,go_sem, *]) rfl ⟨rfl,exx⟩
theorem sEqual_is {d:Nat} {m:List Int} {b:Bool} (hb:decide (l=m)=b) (h:SliceAt w p c l) (k:SliceAt w q d m) :
    Calls Tryz.prog 101 #[.slice p l.length c,.slice q m.length d] w fun e w'=>e = .returned (.bool b)/\Ext w w':=by
  subst hb;exact sEqual_any h k
theorem lookFrom_succ {tag:Int} {r:Nat} (h:S.lookFrom tag l n a=some r) :
    (a=0/\r=0) \/ (a ≠ 0 /\ ∃ n' t f,n=n'+1/\S.tag a=some t/\S.fields a=some f/\((t=tag/\f=l/\r=a) \/ (¬ (t=tag/\f=l) /\ ∃ a',Hp.ra S.words (a+3)=some a'/\S.lookFrom tag l n' a'=some r))):=by
  cases n with
  | zero=>simp [Hp.Hs.lookFrom] at h
  | succ n=>
   unfold Hp.Hs.lookFrom at h
   by_cases ha:a=0
   . rw [if_pos ha] at h;simp only [Option.some.injEq] at h;exact .inl ⟨ha,h.symm⟩
   rw [if_neg ha] at h;simp only [Option.bind_eq_bind,Option.bind_eq_some_iff] at h;obtain ⟨t,ht,f,hf,h⟩:=h;refine .inr ⟨ha,n,t,f,rfl,ht,hf, ?_⟩
   split at h
   . rename_i hc;exact .inl ⟨hc.1,hc.2,by simpa using h.symm⟩
   rename_i hc;simp only [Option.bind_eq_some_iff] at h;obtain ⟨a',ha',h⟩:=h;exact .inr ⟨hc,a',ha',h⟩
theorem look_any {r:Nat} {tag:Int} (h:HAt w d S) (hf:SliceAt w p c l) (hr:S.look tag l=some r) :
    Calls Tryz.prog 110 #[.pointer (some ⟨d.hb,0,none⟩),.int .i64 tag,.slice p l.length c] w fun e w'=>e = .returned (.int .i64 r)/\Ext w w':=by
  unfold Hp.Hs.look at hr;simp only [Option.bind_eq_bind,Option.bind_eq_some_iff] at hr;obtain ⟨k,hk,a,ha,hr⟩:=hr;have hkl:k < S.words.length:=rd_lt (ra_some ha);have g:=h.words.get (ra_some ha);have c2:=h.c2;have z1:=h.lt;have z2:=h.words.lt;have hle:=h.le;have hcap:=h.cap;have H:=hZ h;have HF:=hZ hf;have HR:=hZ hr;have HK:=hZ hk;clear h hf hr hk ha;go_enter Tryz.func110,Tryz.ntmps110
  go_wp2_with fail
  have pr2a:=fun u_ (h_:Ext w u_)=>(h_.cell z1 2).trans c2
  have pr2b:=fun u_ (h_:Ext w u_)=>(h_.cell z2 k).trans g
  refine wp_region_seq (S:=fun W=>Ext w W) (R:=Ext) (by kernel_rfl) Ext.refl ?_ ?_
  . exact exx
  refine' tkL 0 ?_;refine' tkL 1 ?_;refine' tkL 2 ?_;refine' tkL 3 ?_;refine' tkL 4 ?_;refine' tkL 5 ?_;refine' tkC 6 (.int .i64 k) 132 (fun w hE=>chain_any (HF.out.ext hE) HK.out) ?_;refine' tkL 7 ?_;refine' tkL 8 ?_;refine' tkL 9 ?_;refine wpAnyR_done (by kernel_rfl) ?_ _;intro x1 _ Ex1;clear pr2a pr2b
  go_wp2_with fail
  go_loopg [7] S.fuel (fun g s wr=>∃ m a:Nat,m<=g/\s = .int .i64 a/\Aside (Ext w wr)/\Hid (S.lookFrom tag l m a=some r))
  case atStart=>exact ⟨S.fuel,a,Nat.le_refl _,rfl,Ex1,HR⟩
  case round=>
   obtain ⟨m,a,hm,rfl,HE,HL⟩:=hrel;clear c2 g;have H1:=hZ (H.out.ext HE.out);have F1:=hZ (HF.out.ext HE.out);have c2:=H1.out.c2;have z1:=H1.out.lt;have z2:=H1.out.words.lt
   rcases lookFrom_succ HL.out with ⟨rfl,rfl⟩ | ⟨ha,n',t,f,hn',ht,hf,hq⟩
   . go_wp2_with fail
     go_returns;exact ⟨rfl,HE.out⟩
   have HT:=hZ ht;have HFf:=hZ hf;have Hn:=hZ hn';clear ht hf hn';have ha':((a:Int) != 0)=true:=by simpa using ha
   by_cases htt:t=tag
   . subst htt
     by_cases hff:f=l
     . have hra:r=a:=by
         rcases hq with ⟨_,_,h⟩ | ⟨h,_⟩
         . exact h
         exact absurd ⟨rfl,hff⟩ h
       subst hra;clear hq;have HD:=hZ (decide_eq_true hff);clear hff
       go_wp2_with (first
        | (go_at_call 76;refine (tag_any c2 rfl hle hcap H1.out.words HT.out).mono ?_;rintro e w1 ⟨rfl,hb1⟩;obtain ⟨hc1,hf1,hs1⟩:=hb1.cells)
        | (go_at_call 79;refine (fields_any (H1.out.ext (exx)) HFf.out).mono ?_;rintro e w2 ⟨rfl,hb2⟩;obtain ⟨hc2,hf2,hs2⟩:=hb2.cells)
        | (go_at_call 101;refine (sEqual_is HD.out (fields_at (H1.out.ext (exx)) HFf.out) (F1.out.ext (exx))).mono ?_;rintro e w3 ⟨rfl,hb3⟩;obtain ⟨hc3,hf3,hs3⟩:=hb3.cells))
       go_returns;exact ⟨rfl,HE.out.trans (exx)⟩
     obtain ⟨a',hra,hq⟩:∃ a',Hp.ra S.words (a+3)=some a'/\S.lookFrom t l n' a'=some r:=by
      rcases hq with ⟨_,h,_⟩ | ⟨_,h⟩
      . exact absurd h hff
      exact h
     have hal:=rd_lt (ra_some hra);have g:=H1.out.words.get (ra_some hra);have HQ:=hZ hq;have HD:=hZ (decide_eq_false hff);clear hff hq hra
     go_wp2_with (first
      | (go_at_call 76;refine (tag_any c2 rfl hle hcap H1.out.words HT.out).mono ?_;rintro e w1 ⟨rfl,hb1⟩;obtain ⟨hc1,hf1,hs1⟩:=hb1.cells)
      | (go_at_call 79;refine (fields_any (H1.out.ext (exx)) HFf.out).mono ?_;rintro e w2 ⟨rfl,hb2⟩;obtain ⟨hc2,hf2,hs2⟩:=hb2.cells)
      | (go_at_call 101;refine (sEqual_is HD.out (fields_at (H1.out.ext (exx)) HFf.out) (F1.out.ext (exx))).mono ?_;rintro e w3 ⟨rfl,hb3⟩;obtain ⟨hc3,hf3,hs3⟩:=hb3.cells;have E3:=(hb1.trans hb2).trans hb3;have c2'':=(E3.cell z1 2).trans c2;have g'':=(E3.cell z2 (a+3)).trans g))
     go_roundg (n')
     case measure=>have:=Hn.out;omega
     case rel=>exact ⟨n',a',Nat.le_refl _,rfl,HE.out.trans (exx),HQ⟩
   obtain ⟨a',hra,hq⟩:∃ a',Hp.ra S.words (a+3)=some a'/\S.lookFrom tag l n' a'=some r:=by
    rcases hq with ⟨h,_,_⟩ | ⟨_,h⟩
    . exact absurd h htt
    exact h
   have hal:=rd_lt (ra_some hra);have g:=H1.out.words.get (ra_some hra);have HQ:=hZ hq;have htt':(t != tag)=true:=by simpa using htt
   clear htt hq hra
   go_wp2_with (first
    | (go_at_call 76;refine (tag_any c2 rfl hle hcap H1.out.words HT.out).mono ?_;rintro e w1 ⟨rfl,hb1⟩;obtain ⟨hc1,hf1,hs1⟩:=hb1.cells))
   go_roundg (n')
   case measure=>have:=Hn.out;omega
   case rel=>exact ⟨n',a',Nat.le_refl _,rfl,HE.out.trans (exx),HQ⟩
section
variable {P:Program} {ops:Array Oper} {Q:Exit->Act->World->Prop} {md:Region.Mode} {S:World->Prop} {R:World->World->Prop}
def sinkFrom (md:Region.Mode) (ops:Array Oper) (n:Nat) (listed:Array Bool):Bool:=
 (List.range n).all fun i=>listed.getD i false || (List.range (n+1)).any fun j=>decide (i < j) && Region.waitsFor md ops j i
def headInvB (md:Region.Mode) (ops:Array Oper) (n:Nat) (listed:Array Bool):Bool:=
 decide (listed.size=ops.size) &&
 ((List.range ops.size).all fun j=>!(listed.getD j false) || (match ops[j]? with | some o=>o.after.all (fun e=>!(Region.binds md e) || listed.getD e.on false) | none=>true)) &&
 ((List.range ops.size).all fun t=>decide (t < n) || !(listed.getD t true))
theorem headInvB_spec {listed:Array Bool} (h:headInvB md ops n listed=true):HeadInv md ops n listed:=by
 simp only [headInvB,Bool.and_eq_true,decide_eq_true_eq] at h
 obtain ⟨⟨h1,h2⟩,h3⟩:=h
 refine ⟨h1,fun j oj hj hl e he hb=>?_,fun t ht htl=>?_⟩
 . have hjl:j < ops.size:=(Array.getElem?_eq_some_iff.1 hj).1;have:=List.all_eq_true.1 h2 j (List.mem_range.2 hjl);rw [hl,hj] at this;simp only [Bool.not_true,Bool.false_or] at this;have:=Array.all_eq_true_iff_forall_mem.1 this e he;rw [hb] at this
   simpa using this
 have:=List.all_eq_true.1 h3 t (List.mem_range.2 htl)
 simp only [Bool.or_eq_true,decide_eq_true_eq] at this
 rcases this with h | h
 . omega
 simpa using h
def Sunk (md:Region.Mode) (ops:Array Oper) (n:Nat) (listed:Array Bool):Prop:=
 ∀ i,i < n->listed.getD i true=false -> ∃ j,j<=n/\i < j/\Region.waitsFor md ops j i=true
theorem sinkFrom_spec {listed:Array Bool} (h:sinkFrom md ops n listed=true):Sunk md ops n listed:=by
 intro i hi hun
 have:=List.all_eq_true.1 h i (List.mem_range.2 hi)
 rw [getD_both hun] at this
 simp only [Bool.false_or] at this
 obtain ⟨j,hj,h2⟩:=List.any_eq_true.1 this
 simp only [Bool.and_eq_true,decide_eq_true_eq] at h2
 exact ⟨j,by have:=List.mem_range.1 hj;omega,h2.1,h2.2⟩
theorem Sunk.set {listed:Array Bool} (h:Sunk md ops n listed):Sunk md ops n (listed.setIfInBounds i true):=by
 intro k hk hun
 by_cases e:i=k
 . subst e
   rcases Nat.lt_or_ge i listed.size with h' | h'
   . simp [h'] at hun
   refine h i hk ?_;simp [Array.getElem?_eq_none h'] at hun
 rw [getD_set_ne true e] at hun
 exact h k hk hun
theorem tail_bars {listed:Array Bool} (hs:Sunk md ops n listed) (hc:Region.chainB md ops n=true) (inv:HeadInv md ops n listed) :
    ∀ (d i:Nat),n-i=d->i < n->listed.getD i true=false -> ∀ t,n<=t->t ∉ Region.ready md ops listed:=by
  intro d
  induction d using Nat.strongRecOn with
  | _ d ih=>
   intro i hd hi hun t ht hr;obtain ⟨_,ot,hot,hall⟩:=mem_ready.1 hr;have htlt:t < ops.size:=(Array.getElem?_eq_some_iff.1 hot).1
   by_cases htn:t=n
   . subst htn;obtain ⟨j,hjle,hij,hw⟩:=hs i hi hun;obtain ⟨oj,hoj,e,he,hb,hon⟩:=Region.waitsFor_spec hw
     by_cases hjt:j=t
     . subst hjt;have:oj=ot:=Option.some.inj (hoj.symm.trans hot);subst this;have h2:=hall e he hb;rw [hon,getD_both hun] at h2
       cases h2
     cases hl:listed.getD j false with
     | true=>
      have h2:=inv.closed j oj hoj hl e he hb;rw [hon,getD_both hun] at h2
      cases h2
     | false=>
      have hjs:j < listed.size:=by rw [inv.size];omega
      exact ih (t-j) (by omega) j rfl (by omega) (getD_in hjs hl) t (Nat.le_refl _) hr
   have h1:=List.all_eq_true.1 hc t (List.mem_range.2 htlt);simp only [Bool.or_eq_true,decide_eq_true_eq] at h1
   rcases h1 with h1 | h1
   . omega
   obtain ⟨o',ho',e,he,hb,hon⟩:=Region.waitsFor_spec h1;have:o'=ot:=Option.some.inj (ho'.symm.trans hot);subst this;have h2:=hall e he hb;rw [hon,getD_both (inv.tail (t-1) (by omega) (by omega))] at h2
   cases h2
def wpAnyX (P:Program) (md:Region.Mode) (ops:Array Oper) (Q:Exit->Act->World->Prop) (S:World->Prop) (R:World->World->Prop) (n G:Nat):Nat->Array Bool->Act->World->Prop
 | 0,listed,a,w=>(∀ j ∈ Region.ready md ops listed,n<=j) /\ ∀ w',R w w'->S w'->wpAny P md ops Q G listed a w'
 | f+1,listed,a,w=>∀ w',R w w'->S w'->Region.ready md ops listed ≠ [] /\
     ∀ i ∈ Region.ready md ops listed,i < n/\wpOp P ops Q i (fun a' w''=>S w''/\wpAnyX P md ops Q S R n G f (listed.setIfInBounds i true) a' w'') a w'
variable {n G:Nat}
theorem wpAnyX.mono (hT:∀ a b c,R a b->R b c->R a c):∀ {f:Nat} {listed:Array Bool} {a:Act} {w w1:World},R w w1->wpAnyX P md ops Q S R n G f listed a w->wpAnyX P md ops Q S R n G f listed a w1
 | 0,_,_,_,_,hr,h=>⟨h.1,fun w' r s=>h.2 w' (hT _ _ _ hr r) s⟩
 | _+1,_,_,_,_,hr,h=>fun w' r s=>h w' (hT _ _ _ hr r) s
theorem wpAny_of_X (hR:∀ w,R w w):∀ (f:Nat) (listed:Array Bool) (a:Act) (w:World),S w->wpAnyX P md ops Q S R n G f listed a w->wpAny P md ops Q (f+G) listed a w
 | 0,_,_,w,hS,h=>by rw [Nat.zero_add];exact h.2 w (hR w) hS
 | f+1,_,_,w,hS,h=>by
  rw [show f+1+G=(f+G)+1 by omega];exact ⟨fun h0=>absurd h0 (h w (hR w) hS).1,fun i hi=>wpOp_mono (fun a' w' h'=>wpAny_of_X hR f _ a' w' h'.1 h'.2) ((h w (hR w) hS).2 i hi).2⟩
theorem wpAnyX_first {oi:Oper} {v:Value} (hR:∀ w,R w w) (hT:∀ a b c,R a b->R b c->R a c) (hi:ops[i]? = some oi) (hsel:∀ (j:Nat) (o:Oper) cs b,ops[j]? = some o->o.op ≠ .select cs b)
    (hQ:∀ c a w,Q (.panic c) (a.put oi.dst v) w->Q (.panic c) a w) (hc:Region.chainB md ops n=true) (hin:i < n) :
    ∀ (f:Nat) (listed:Array Bool) (a:Act) (w:World),HeadInv md ops n listed->Sunk md ops n listed ->
     (∀ j oj,ops[j]? = some oj->j ≠ i->listed.getD j true=false->(∀ e ∈ oj.after,Region.binds md e=true->e.on ≠ i)->oi.apart ops oj=true) ->
     i ∈ Region.ready md ops listed->YieldsOn P ops S R oi v a ->
     wpAnyX P md ops Q S R n G f (listed.setIfInBounds i true) (a.put oi.dst v) w->wpAnyX P md ops Q S R n G (f+1) listed a w:=by
  intro f
  induction f with
  | zero=>
   intro listed a w inv hs _ hr hy H w' r s;have hun:=(mem_ready.1 hr).1;refine ⟨fun h=>(by rw [h] at hr;cases hr),fun j hj=>?_⟩
   have hjn:j < n:=by
    rcases Nat.lt_or_ge j n with h | h
    . exact h
    exact absurd hj (tail_bars hs hc inv _ i rfl hin hun j h)
   refine ⟨hjn, ?_⟩
   by_cases hji:j=i
   . subst hji;exact hy.wpOp hi hR s fun w'' r' s'=>⟨s',wpAnyX.mono hT (hT _ _ _ r r') H⟩
   have:=H.1 j (ready_mono hj hji);omega
  | succ f ih=>
   intro listed a w inv hs hfree hr hy H w' r s;have hun:listed.getD i true=false:=(mem_ready.1 hr).1;refine ⟨fun h=>(by rw [h] at hr;cases hr),fun j hj=>?_⟩
   have hjn:j < n:=by
    rcases Nat.lt_or_ge j n with h | h
    . exact h
    exact absurd hj (tail_bars hs hc inv _ i rfl hin hun j h)
   refine ⟨hjn, ?_⟩
   by_cases hji:j=i
   . subst hji;exact hy.wpOp hi hR s fun w'' r' s'=>⟨s',wpAnyX.mono hT (hT _ _ _ r r') H⟩
   have h1:=((H w' r s).2 j (ready_mono hj hji)).2;obtain ⟨hjun,oj,hoj,hall⟩:=mem_ready.1 hj;have hnot:∀ e ∈ oj.after,Region.binds md e=true->e.on ≠ i:=by
    intro e he hb heq;have h2:=hall e he hb;rw [heq,getD_both hun] at h2
    cases h2
   have h2:=wpOp_putOn hoj (hfree j oj hoj hji hjun hnot) (fun cs b=>hsel i oi cs b hi) (fun cs b=>hsel j oj cs b hoj) hQ hy h1;refine wpOp_mono ?_ h2;rintro a' w'' ⟨hy',hs',hk⟩;refine ⟨hs',ih (listed.setIfInBounds j true) a' w'' (inv.set hj hjn) hs.set ?_ (ready_mono hr (Ne.symm hji)) hy' ?_⟩
   . intro k ok hk hki hu hno;refine hfree k ok hk hki ?_ hno
     by_cases hjk:j=k
     . subst hjk;exact hjun
     rw [getD_set_ne true hjk] at hu;exact hu
   rw [Array.setIfInBounds_comm _ _ hji];exact hk
def takeB (md:Region.Mode) (ops:Array Oper) (n:Nat) (listed:Array Bool) (i:Nat):Bool:=
 Region.noSelect ops && Region.chainB md ops n && headInvB md ops n listed && sinkFrom md ops n listed && decide (i < n) && (Region.ready md ops listed).contains i && Region.free md ops listed i
theorem wpAnyX_take {oi:Oper} {v:Value} {listed:Array Bool} {a:Act} (hR:∀ w,R w w) (hT:∀ a b c,R a b->R b c->R a c) (hi:ops[i]? = some oi)
    (hb:takeB md ops n listed i=true) (hQ:∀ c a w,Q (.panic c) (a.put oi.dst v) w->Q (.panic c) a w) (hy:YieldsOn P ops S R oi v a)
    (h:wpAnyX P md ops Q S R n G f (listed.setIfInBounds i true) (a.put oi.dst v) w):wpAnyX P md ops Q S R n G (f+1) listed a w:=by
  simp only [takeB,Bool.and_eq_true,decide_eq_true_eq] at hb;obtain ⟨⟨⟨⟨⟨⟨b1,b2⟩,b3⟩,b4⟩,b5⟩,b6⟩,b7⟩:=hb;exact wpAnyX_first hR hT hi (Region.noSelect_spec b1) hQ b2 b5 f listed a w (headInvB_spec b3) (sinkFrom_spec b4) (Region.free_spec hi b7) (by simpa using b6) hy h
theorem wpAnyX_done {l:List Oper} {listed:Array Bool} {a:Act} (hb:Region.seqB md l.toArray (l.drop n).length n listed=true)
    (h:∀ w',R w w'->S w'->wpList P l.toArray Q (l.drop n) a w'):wpAnyX P md l.toArray Q S R n (l.drop n).length 0 listed a w:=
  ⟨seqB_ready hb,fun w' r s=>wpAny_of_seq (l.drop n) n listed a w' (fun j=>by simp [List.getElem?_drop]) hb (h w' r s)⟩
theorem wpAny_to_X {l:List Oper} {listed:Array Bool} {a:Act} (n f:Nat) (hR:∀ w,R w w) (hS:S w)
    (h:wpAnyX P md l.toArray Q S R n (l.drop n).length f listed a w) {N:Nat} (hN:f+(l.drop n).length=N):wpAny P md l.toArray Q N listed a w:=by
  subst hN;exact wpAny_of_X hR f listed a w hS h
end
section
variable {P:Program} {ops:Array Oper} {Q:Exit->Act->World->Prop} {md:Region.Mode} {S:World->Prop} {n G:Nat}
theorem tkX (i:Nat) {oi:Oper} {v:Value} {listed:Array Bool} {a:Act} (hi:ops[i]? = some oi) (hy:YieldsOn P ops S Ext oi v a) (h:wpAnyX P md ops Q S Ext n G f (listed.setIfInBounds i true) (a.put oi.dst v) w)
    (hb:takeB md ops n listed i=true:=by kernel_rfl) (hQ:∀ c a w,Q (.panic c) (a.put oi.dst v) w->Q (.panic c) a w:=by exact (fun _ _ _ h=>h)):wpAnyX P md ops Q S Ext n G (f+1) listed a w:=
  wpAnyX_take Ext.refl (fun _ _ _=>Ext.trans) hi hb hQ hy h
theorem tkZ (i:Nat) {oi:Oper} {v:Value} {listed:Array Bool} {a:Act} (hi:ops[i]? = some oi) (hy:∀ w,S w->(execOp a.eval oi).run P w = .ok (.value v) w) (h:wpAnyX P md ops Q S Ext n G f (listed.setIfInBounds i true) (a.put oi.dst v) w)
    (hw:Region.wanted oi (yielded ops a.tmps)=true:=by rfl) (hb:takeB md ops n listed i=true:=by kernel_rfl) (hQ:∀ c a w,Q (.panic c) (a.put oi.dst v) w->Q (.panic c) a w:=by exact (fun _ _ _ h=>h)):wpAnyX P md ops Q S Ext n G (f+1) listed a w:=
  wpAnyX_take Ext.refl (fun _ _ _=>Ext.trans) hi hb hQ (Or.inl (Or.inl ⟨hw,hy⟩)) h
theorem tkY (i:Nat) {oi:Oper} {v:Value} {q:Prop} {listed:Array Bool} {a:Act} (h:q) (hi:ops[i]? = some oi:=by exact rfl) (hy:∀ w,S w->(execOp a.eval oi).run P w = .ok (.value v) w:=by intro w q;go_simp;try with_reducible rfl) (e:wpAnyX P md ops Q S Ext n G f (listed.setIfInBounds i true) (a.put oi.dst v) w=q:=by first | (simp only [List.getElem_toArray,List.getElem_cons_zero,List.getElem_cons_succ,Act.put,List.setIfInBounds_toArray,List.set_cons_zero,List.set_cons_succ];exact rfl) | exact rfl)
    (hw:Region.wanted oi (yielded ops a.tmps)=true:=by rfl) (hb:takeB md ops n listed i=true:=by kernel_rfl) (hQ:∀ c a w,Q (.panic c) (a.put oi.dst v) w->Q (.panic c) a w:=by exact (fun _ _ _ h=>h)):wpAnyX P md ops Q S Ext n G (f+1) listed a w:=
  wpAnyX_take Ext.refl (fun _ _ _=>Ext.trans) hi hb hQ (Or.inl (Or.inl ⟨hw,hy⟩)) (e.mpr h)
theorem tkM (i:Nat) {oi:Oper} {q:Prop} {listed:Array Bool} {a:Act} (h:q) (hi:ops[i]? = some oi:=by exact rfl) (e:wpAnyX P md ops Q S Ext n G f (listed.setIfInBounds i true) (a.put oi.dst undef) w=q:=by first | (simp only [List.getElem_toArray,List.getElem_cons_zero,List.getElem_cons_succ,Act.put,List.setIfInBounds_toArray,List.set_cons_zero,List.set_cons_succ];exact rfl) | exact rfl)
    (hw:Region.wanted oi (yielded ops a.tmps)=false:=by rfl) (hb:takeB md ops n listed i=true:=by kernel_rfl) (hQ:∀ c a w,Q (.panic c) (a.put oi.dst undef) w->Q (.panic c) a w:=by exact (fun _ _ _ h=>h)):wpAnyX P md ops Q S Ext n G (f+1) listed a w:=
  wpAnyX_take Ext.refl (fun _ _ _=>Ext.trans) hi hb hQ (Or.inl (Or.inr ⟨hw,rfl⟩)) (e.mpr h)
theorem tkE (i:Nat) {oi:Oper} {v:Value} {listed:Array Bool} {a:Act} (hi:ops[i]? = some oi) (hy:∀ w,S w->(execOp a.eval oi).run P w = .ok (.value v) w) (h:wpAnyX P md ops Q S Eq n G f (listed.setIfInBounds i true) (a.put oi.dst v) w)
    (hw:Region.wanted oi (yielded ops a.tmps)=true:=by rfl) (hb:takeB md ops n listed i=true:=by kernel_rfl) (hQ:∀ c a w,Q (.panic c) (a.put oi.dst v) w->Q (.panic c) a w:=by exact (fun _ _ _ h=>h)):wpAnyX P md ops Q S Eq n G (f+1) listed a w:=
  wpAnyX_take (fun _=>rfl) (fun _ _ _ h k=>h.trans k) hi hb hQ (Or.inl (Or.inl ⟨hw,hy⟩)) h
theorem tkA (i:Nat) {oi:Oper} {v:Value} {fuel:Nat} {listed:Array Bool} {a:Act} (hi:ops[i]? = some oi) (hy:∀ w,(execOp a.eval oi).run P w = .ok (.value v) w) (h:wpAny P md ops Q fuel (listed.setIfInBounds i true) (a.put oi.dst v) w)
    (hw:Region.wanted oi (yielded ops a.tmps)=true:=by rfl) (hs:Region.noSelect ops=true:=by kernel_rfl) (hf:Region.free md ops listed i=true:=by kernel_rfl) (hr:(Region.ready md ops listed).contains i=true:=by kernel_rfl) (hQ:∀ c a w,Q (.panic c) (a.put oi.dst v) w->Q (.panic c) a w:=by exact (fun _ _ _ h=>h)):wpAny P md ops Q (fuel+1) listed a w:=
  wpAny_take hi hs hf hr hQ (Or.inl ⟨hw,hy⟩) h
end
theorem run_clear_words (h:HAt w d S) (hz:Hp.zero S.words i n=some W) (hn:0 < n) (c:Nat) (ty:TypeId) :
    (Builtin.clear_ #[22] ty #[.slice (some ⟨d.gw,i,none⟩) n c]).run Tryz.prog w = .ok (.tuple #[]) (w.setCells d.gw i (List.replicate n (.int .i64 0))):=
  Lib.run_clear_slice w _ 3 ty (.int .i64 0) Tryz.underlying22 (fun w=>Tryz.zeroValue3 w) rfl rfl d.gw i n c hn
   (fun j hj=>by
    obtain ⟨x,hx⟩:=rd_get (l:=S.words) (j:=i+j) (by have:=(HAt.zero_len hz).2;omega);rw [h.words.get hx];rfl)
   (fun j _=>h.words.froz _)
theorem takeFrom_succ {W':List Int} {wide link r:Nat} (h:Hp.Hs.takeFrom W wide n link=some (r,W')) :
    ∃ n' a,n=n'+1/\Hp.ra W link=some a/\((a=0/\r=0/\W'=W) \/ (a ≠ 0 /\ ∃ v next,Hp.rc W (a+1)=some v/\Hp.rd W (a+2)=some next /\
     ((v-wide=0/\r=a /\ ∃ W1,Hp.wr W link next=some W1/\Hp.zero W1 a wide=some W') \/
      (v-wide ≠ 0/\3<=v-wide/\r=a /\ ∃ W1 W2 W3 W4,Hp.wr W (a+wide) 0=some W1/\Hp.wr W1 (a+wide+1) (v-wide)=some W2/\Hp.wr W2 (a+wide+2) next=some W3/\Hp.wr W3 link (a+wide:Nat)=some W4/\Hp.zero W4 a wide=some W') \/
      (v-wide ≠ 0 /\ ¬ 3<=v-wide/\Hp.Hs.takeFrom W wide n' (a+2)=some (r,W'))))):=by
  cases n with
  | zero=>simp [Hp.Hs.takeFrom] at h
  | succ n=>
   unfold Hp.Hs.takeFrom at h;simp only [Option.bind_eq_bind,Option.bind_eq_some_iff] at h;obtain ⟨a,ha,h⟩:=h;refine ⟨n,a,rfl,ha, ?_⟩
   split at h
   . rename_i h0;simp only [Option.some.injEq,Prod.mk.injEq] at h;exact .inl ⟨h0,h.1.symm,h.2.symm⟩
   rename_i h0;simp only [Option.bind_eq_some_iff] at h;obtain ⟨v,hv,next,hx,h⟩:=h;refine .inr ⟨h0,v,next,hv,hx, ?_⟩
   split at h
   . rename_i h1;simp only [Option.bind_eq_some_iff,Option.some.injEq,Prod.mk.injEq] at h;obtain ⟨W1,hW1,W2,hW2,h2,rfl⟩:=h;exact .inl ⟨h1,h2.symm,W1,hW1,hW2⟩
   rename_i h1
   split at h
   . rename_i h3;simp only [Option.bind_eq_some_iff,Option.some.injEq,Prod.mk.injEq] at h;obtain ⟨W1,hW1,W2,hW2,W3,hW3,W4,hW4,W5,hW5,h2,rfl⟩:=h;exact .inr (.inl ⟨h1,h3,h2.symm,W1,W2,W3,W4,hW1,hW2,hW3,hW4,hW5⟩)
   rename_i h3;exact .inr (.inr ⟨h1,h3,h⟩)
set_option maxRecDepth 100000 in
set_option maxHeartbeats 4000000 in
theorem take_any {wide r:Nat} (h:HAt w d S) (hn:0 < wide) (hw:wide<=1000) (hr:S.take wide=some (r,W)) :
    Calls Tryz.prog 157 #[.pointer (some ⟨d.hb,0,none⟩),.int .i64 wide] w (Turned d w (.int .i64 r) { S with words:=W }):=by
  unfold Hp.Hs.take at hr;have hle:=h.le;have hcap:=h.cap;have c2:=h.c2;have f2:=h.f2;have z1:=h.lt;have z2:=h.words.lt;have ap:=h.apart1;have ap':=h.apart1.symm;have H:=hZ (Now.refl h);have HR:=hZ hr;have hl16:16 < S.words.length:=by
   obtain ⟨n',a,_,ha,_⟩:=takeFrom_succ hr;exact rd_lt (ra_some ha)
  obtain ⟨x16,hx16⟩:∃ x,Hp.ra S.words 16=some x:=by
   obtain ⟨n',a,_,ha,_⟩:=takeFrom_succ hr;exact ⟨a,ha⟩
  have g16:=h.words.get (ra_some hx16);have X16:=hZ hx16;clear h hr hx16;go_enter Tryz.func157,Tryz.ntmps157
  go_wp2_with fail
  go_step3
  go_wp2_with fail
  go_step3
  go_wp2_with fail
  go_loopg [5,6] S.fuel (fun g l s wr=>∃ m link a:Nat,wr=w/\m<=g/\l = .int .i64 link/\s = .int .i64 a/\link < S.words.length/\Hid (Hp.ra S.words link=some a)/\Hid (Hp.Hs.takeFrom S.words wide m link=some (r,W)))
  case atStart=>exact ⟨S.fuel,16,x16,rfl,Nat.le_refl _,rfl,rfl,hl16,X16,HR⟩
  case round=>
   obtain ⟨m,link,a,rfl,hm,rfl,rfl,hlink,HA,HL⟩:=hrel;clear g16;obtain ⟨n',a1,hn',ha1,hq⟩:=takeFrom_succ HL.out;have e:=HA.out;rw [ha1] at e
   cases e
   have Hn:=hZ hn';clear hn' ha1
   rcases hq with ⟨rfl,rfl,rfl⟩ | ⟨ha,v,next,hv,hx,hq⟩
   . go_wp2_with fail
     go_returns;exact H.out.done
   obtain ⟨hv,hv1,hv2⟩:=rc_some hv;have g1:=H.out.words.get hv;have g2:=H.out.words.get hx;have l1:=rd_lt hv;have l2:=rd_lt hx;have HX:=hZ hx;have ha':((a:Int) != 0)=true:=by simpa using ha
   clear hv hx
   rcases hq with ⟨h0,rfl,W1,hW1,hW2⟩ | ⟨h0,h3,rfl,W1,W2,W3,W4,hW1,hW2,hW3,hW4,hW5⟩ | ⟨h0,h3,hq⟩
   . have hb:=H.out.words.bound HX.out;have HB:=hZ hb;have t0:((v-(wide:Int)) == 0)=true:=by simpa using h0
     have hz:=(HAt.zero_len hW2).2;have e1:S.words.length=W1.length:=(HAt.wr_len hW1).1.symm;rw [<- e1] at hz;have EW1:=hZ hW1;have EW2:=hZ hW2;clear h0 hW1 e1 hb hW2
     go_wp2_with fail
     clear c2 f2 g1 g2 z1 z2;refine wp_region_still_tail 13 (by kernel_rfl) (by kernel_rfl) ?_;change wpStill _ _ (World.drew wr) (fun a'=>wpList _ _ _ _ a' (World.drew wr)) _ _;have ED:Ext wr (World.drew wr):=Ext.drew (Ext.refl _);have HD:=hZ (H.out.ext ED);generalize World.drew wr=wd at HD ED ⊢;have c2:=HD.out.c2;have c3:=HD.out.c3;have f2:=HD.out.f2;have z1:=HD.out.lt;have z2:=HD.out.words.lt;have g1:=HD.out.words.get HX.out;have fr:=HD.out.words.froz link;have g0:=HD.out.words.get (ra_some HA.out);obtain ⟨i1,i2,i3,i4⟩:IntKind.i64.wrap (((r:Nat):Int)+2)=((r:Nat):Int)+2/\(0:Int)<=((r:Nat):Int)+2/\((r:Nat):Int)+2 < ((S.words.length:Nat):Int)/\(((r:Nat):Int)+2).toNat=r+2:=⟨IntWalk.i64_in _ (by omega),by omega,by omega,by omega⟩
     simp only [List.take_succ_cons,List.take_zero,List.drop_succ_cons,List.drop_zero]
     repeat still_step
     refine wpStill_nil ?_;clear i1 i2 i3 i4 g1;have H1:=hZ (HD.out.set EW1.out HB.out.1 HB.out.2);have hcl:=fun c ty=>run_clear_words H1.out.toHAt EW2.out hn c ty
     go_wp2_with fail
     (try rw [Exit.noGoto_ret])
     go_returns;exact (H1.out.clear EW2.out).done
   . have hb:=H.out.words.bound HX.out;have HB:=hZ hb;have t0:((v-(wide:Int)) == 0)=false:=by simpa using h0
     have hz:=(HAt.zero_len hW5).2;have b1:=HAt.wr_len hW1;have b2:=HAt.wr_len hW2;have b3:=HAt.wr_len hW3;have b4:=HAt.wr_len hW4;have q1:=b1.2;have q2:r+wide+1 < S.words.length:=by have:=b2.2;rw [b1.1] at this;exact this
     have q3:r+wide+2 < S.words.length:=by have:=b3.2;rw [b2.1,b1.1] at this;exact this
     rw [b4.1,b3.1,b2.1,b1.1] at hz;obtain ⟨y1,hy1⟩:=rd_get q1;obtain ⟨y2,hy2⟩:=rd_get q2;obtain ⟨y3,hy3⟩:=rd_get q3;have Y1:=hZ hy1;have Y2:=hZ hy2;have Y3:=hZ hy3;clear hy1 hy2 hy3;have EW1:=hZ hW1;have EW2:=hZ hW2;have EW3:=hZ hW3;have EW4:=hZ hW4;have EW5:=hZ hW5;clear h0 hW1 hb hW2 hW3 hW4 hW5 b1 b2 b3 b4
     go_wp2_with fail
     clear c2 f2 g1 g2 z1 z2;obtain ⟨i1,i2,i3,i4⟩:IntKind.i64.wrap (((r:Nat):Int)+2)=((r:Nat):Int)+2/\(0:Int)<=((r:Nat):Int)+2/\((r:Nat):Int)+2 < ((S.words.length:Nat):Int)/\(((r:Nat):Int)+2).toNat=r+2:=⟨IntWalk.i64_in _ (by omega),by omega,by omega,by omega⟩
     obtain ⟨k1,k2,k3,k4⟩:IntKind.i64.wrap (((r:Nat):Int)+((wide:Nat):Int))=((r:Nat):Int)+((wide:Nat):Int)/\(0:Int)<=((r:Nat):Int)+((wide:Nat):Int)/\((r:Nat):Int)+((wide:Nat):Int) < ((S.words.length:Nat):Int)/\(((r:Nat):Int)+((wide:Nat):Int)).toNat=r+wide:=⟨IntWalk.i64_in _ (by omega),by omega,by omega,by omega⟩
     obtain ⟨l1,l2,l3,l4⟩:IntKind.i64.wrap (((r:Nat):Int)+((wide:Nat):Int)+1)=((r:Nat):Int)+((wide:Nat):Int)+1/\(0:Int)<=((r:Nat):Int)+((wide:Nat):Int)+1/\((r:Nat):Int)+((wide:Nat):Int)+1 < ((S.words.length:Nat):Int)/\(((r:Nat):Int)+((wide:Nat):Int)+1).toNat=r+wide+1:=⟨IntWalk.i64_in _ (by omega),by omega,by omega,by omega⟩
     obtain ⟨m1,m2,m3,m4⟩:IntKind.i64.wrap (((r:Nat):Int)+((wide:Nat):Int)+2)=((r:Nat):Int)+((wide:Nat):Int)+2/\(0:Int)<=((r:Nat):Int)+((wide:Nat):Int)+2/\((r:Nat):Int)+((wide:Nat):Int)+2 < ((S.words.length:Nat):Int)/\(((r:Nat):Int)+((wide:Nat):Int)+2).toNat=r+wide+2:=⟨IntWalk.i64_in _ (by omega),by omega,by omega,by omega⟩
     have c2:=H.out.c2;have z1:=H.out.lt;have z2:=H.out.words.lt;have g1:=H.out.words.get HX.out;refine wp_region_any (by kernel_rfl) ?_;refine' tkA 9 rfl ?hy9_25 ?_
     case hy9_25=>(intro w;go_simp;try with_reducible rfl)
     refine layy ?_;refine' tkA 10 rfl ?hy10_26 ?_
     case hy10_26=>(intro w;go_simp;try with_reducible rfl)
     refine layy ?_;refine' tkA 15 rfl ?hy15_27 ?_
     case hy15_27=>(intro w;go_simp;try with_reducible rfl)
     refine layy ?_;refine' tkA 16 rfl ?hy16_28 ?_
     case hy16_28=>(intro w;go_simp;try with_reducible rfl)
     refine layy ?_;refine' tkA 17 rfl ?hy17_29 ?_
     case hy17_29=>(intro w;go_simp;try with_reducible rfl)
     refine layy ?_;have pr3a:=fun u_ (h_:Ext wr u_)=>(h_.cell z1 2).trans c2
     have pr3b:=fun u_ (h_:Ext wr u_)=>(h_.cell z2 (r+2)).trans g1
     refine wpAny_to_X (S:=fun W=>Ext wr W) (R:=Ext) 26 21 Ext.refl ?_ ?_ (by rfl)
     . exact Ext.drew exx
     refine' tkY 0 ?_;refine' tkY 1 ?_;refine' tkY 2 ?_;refine' tkY 3 ?_;refine' tkY 4 ?_;refine' tkY 5 ?_;refine' tkY 6 ?_;refine' tkY 7 ?_;refine' tkY 8 ?_;refine' tkY 11 ?_;refine' tkY 12 ?_;refine' tkY 13 ?_;refine' tkY 14 ?_;refine' tkY 18 ?_;refine' tkY 19 ?_;refine' tkY 20 ?_;refine' tkY 21 ?_;refine' tkY 22 ?_;refine' tkY 23 ?_;refine' tkY 24 ?_;refine' tkY 25 ?_;refine wpAnyX_done (by kernel_rfl) ?_;intro wd _ Ewd;clear pr3a pr3b;simp only [List.drop_succ_cons,List.drop_zero];clear c2 z1 z2 g1;have HD:=hZ (H.out.ext Ewd);have c2:=HD.out.c2;have f2:=HD.out.f2;have z1:=HD.out.lt;have z2:=HD.out.words.lt;have fr:=HD.out.words.froz link;have g0:=HD.out.words.get (ra_some HA.out);have g3:=HD.out.words.get Y1.out;have g4:=HD.out.words.get Y2.out;have g5:=HD.out.words.get Y3.out;have fr1:=HD.out.words.froz (r+wide);have fr2:=HD.out.words.froz (r+wide+1);have fr3:=HD.out.words.froz (r+wide+2);clear i1 i2 i3 i4 k1 k2 k3 k4 l1 l2 l3 l4 m1 m2 m3 m4;have H1:=hZ (HD.out.set EW1.out (by omega) (by omega));have H2:=hZ (H1.out.set EW2.out (by omega) (by omega));have H3:=hZ (H2.out.set EW3.out HB.out.1 HB.out.2);go_upto_region 12 with (fail)
     refine Now.cut H3.out ?_;intro w3 N3;have H3:=hZ N3;clear N3 fr fr1 fr2 fr3 g0 g3 g4 g5 c2 f2 z1 z2 H1 H2;have c2:=H3.out.c2;have f2:=H3.out.f2;have z1:=H3.out.lt;have z2:=H3.out.words.lt;have fr:=H3.out.words.froz link;have e3:=(HAt.wr_len EW4.out).2;obtain ⟨y,hy⟩:=rd_get e3;have g:=H3.out.words.get hy;have Y:=hZ hy;have H4:=hZ (H3.out.set EW4.out (by omega) (by omega));have hcl:=fun c ty=>run_clear_words H4.out.toHAt EW5.out hn c ty
     simp only [Int.natCast_add] at hcl H4;have E3:=hZ e3;clear hy e3
     go_wp2_with fail
     go_returns;exact (H4.out.clear EW5.out).done
   have t0:((v-(wide:Int)) == 0)=false:=by simpa using h0
   have hz:a+2 < S.words.length:=l2;obtain ⟨_,a2,_,hra2,_⟩:=takeFrom_succ hq;obtain rfl:next=(a2:Int):=by
    have h1:=HX.out;have h2:=ra_some hra2;rw [h2] at h1;exact (Option.some.inj h1).symm
   have g3:=H.out.words.get (ra_some hra2);have A2:=hZ hra2;have HQ:=hZ hq;clear h0 hq hra2
   go_wp2_with fail
   go_roundg n'
   case measure=>have:=Hn.out;omega
   case rel=>exact ⟨n',a+2,a2,rfl,Nat.le_refl _,by go_num,rfl,hz,A2,HQ⟩
open Go.RowKit Go.Maps Go.WideElems Go.ChangeMaps
theorem entry_store {H:Type} {P:Program} {t k e:TypeId} {R:Value->Option (DataW H × List MemPlace)} {es:Array MapEntry} {clock:Nat}
    (K:Keyed P k) (ht:P.underlying t=some (.map k e)) {z:Value} (hz:∀ u:World,(zeroValue e).run P u = .ok z u) (hb:w.heap[b]? = some (.map es clock)) (F:WideElems.Fit P k R es clock)
    {key:Value} {kl:Lit} (hkey:keyOf P k key=some kl) (val:Value) :
    ∃ (v0:Value) (st:Nat) (w1 w2:World),(Instr.mapEntry t (.map (some b)) key).run P w = .ok (.tuple #[v0,goInt st]) w1/\w.mapTurned w1 b /\
     (Instr.entryStore t (.map (some b)) (goInt st) val).run P w1 = .ok () w2/\(Instr.mapUpdate t (.map (some b)) key val).run P w = .ok () w2:=by
  obtain ⟨s1,s2,_⟩:=F.stamped
  rcases K.find w hkey es.toList F.keys with ⟨h1,_⟩ | ⟨j,e0,h1,h2,h3⟩
  . have hb1:(setBlock w b (.map (es.push ⟨key,z,clock⟩) (clock+1))).heap[b]? = some (.map (es.push ⟨key,z,clock⟩) (clock+1)):=heap_setBlock_same hb _;have hi:(es.push ⟨key,z,clock⟩).findIdx? (fun x=>((x.born:Nat):Int) == ((clock:Nat):Int))=some es.size:=by
     rw [findIdx_arr];refine findIdx_born (l:=(es.push ⟨key,z,clock⟩).toList) (j:=es.size) (e0:=⟨key,z,clock⟩) ?_ (by simp);rw [Array.toList_push,List.map_append,List.nodup_append];refine ⟨s2,by simp, ?_⟩;intro a ha c hc;obtain ⟨x,hx,rfl⟩:=List.mem_map.1 ha;have:=s1 x hx;simp only [List.map_cons,List.map_nil,List.mem_singleton] at hc;omega
    have hm:(es.push ⟨key,z,clock⟩).modify es.size (fun x=>{ x with val:=val })=es.push ⟨key,val,clock⟩:=by
     apply Array.ext';rw [Array.toList_modify,Array.toList_push,Array.toList_push,<- Array.length_toList];exact modify_last _ _ _
    refine ⟨z,clock,_,setBlock w b (.map (es.push ⟨key,val,clock⟩) (clock+1)), ?_,⟨es,clock,es.push ⟨key,z,clock⟩,clock+1,hb,rfl⟩, ?_, ?_⟩
    . simp [Instr.mapEntry,run_underlying ht,MapKept.run_getObj_map hb,K.check w false hkey,h1,hz,MapKept.run_setObj_map _ hb,Result.andThen,setBlock]
    . have hs:=MapKept.run_setObj_map (P:=P) (.map (es.push ⟨key,val,clock⟩) (clock+1)) hb1;simp only [Instr.entryStore,Sem.run_bind,MapKept.run_getObj_map hb1,Result.andThen,asInt,asIntOf,goInt];simp [hi,hm,setBlock];exact hs.trans (by simp [setBlock])
    simp [Instr.mapUpdate,run_underlying ht,MapKept.run_getObj_map hb,K.check w false hkey,h1,MapKept.run_setObj_map _ hb,Result.andThen,setBlock]
  have hj:es[j]? = some e0:=by simpa using h2
  have hsame:es.modify j (fun x=>{ x with key:=key })=es:=by
   apply Array.ext';rw [Array.toList_modify,modify_eq_set _ _ _ _ h2];have e1:({ e0 with key:=key }:MapEntry)=e0:=by rw [<- h3]
   rw [e1];exact set_self _ _ _ h2
  have hb1:(setBlock w b (.map es clock)).heap[b]? = some (.map es clock):=heap_setBlock_same hb _;have hi:es.findIdx? (fun x=>((x.born:Nat):Int) == ((e0.born:Nat):Int))=some j:=by
   rw [findIdx_arr];exact findIdx_born s2 h2
  have hm:es.modify j (fun x=>{ x with val:=val })=es.modify j (fun x=>{ x with key:=key,val:=val }):=by
   apply Array.ext';rw [Array.toList_modify,Array.toList_modify,modify_eq_set _ _ _ _ h2,modify_eq_set _ _ _ _ h2,<- h3]
  refine ⟨e0.val,e0.born,setBlock w b (.map es clock),setBlock w b (.map (es.modify j (fun x=>{ x with key:=key,val:=val })) clock), ?_,⟨es,clock,es,clock,hb,rfl⟩, ?_, ?_⟩
  . simp [Instr.mapEntry,run_underlying ht,MapKept.run_getObj_map hb,K.check w false hkey,h1,hj,h3,K.stays w hkey,hsame,MapKept.run_setObj_map _ hb,Result.andThen,setBlock]
  . have hs:=MapKept.run_setObj_map (P:=P) (.map (es.modify j (fun x=>{ x with val:=val })) clock) hb1;simp only [Instr.entryStore,Sem.run_bind,MapKept.run_getObj_map hb1,Result.andThen,asInt,asIntOf,goInt];rw [hm] at hs;simp [hi,hm,setBlock];exact hs.trans (by simp [setBlock])
  simp [Instr.mapUpdate,run_underlying ht,MapKept.run_getObj_map hb,K.check w false hkey,h1,hj,h3,K.stays w hkey,MapKept.run_setObj_map _ hb,Result.andThen,setBlock]
namespace MapAt
variable {P:Program} {w w':World} {g:Nat} {T:List Nat} {t:TypeId}
theorem enter (h:MapAt P w g T) (hk:P.underlying 3=some (.int .i64)) (he:P.underlying 4=some .bool) (ht:P.underlying t=some (.map 3 4)) (hz:∀ u:World,(zeroValue 4).run P u = .ok (.bool false) u)
    (hn:T.length < maxLen) {a:Nat} (ha:(a:Int)<=9223372036854775807) :
    ∃ (v0:Value) (st:Nat) (w1 w2:World),(Instr.mapEntry t (.map (some g)) (.int .i64 a)).run P w = .ok (.tuple #[v0,goInt st]) w1/\w.mapTurned w1 g /\
     (Instr.entryStore t (.map (some g)) (goInt st) (.bool true)).run P w1 = .ok () w2/\MapAt P w2 g (Hp.Hs.insert a T)/\w.mapTurned w2 g:=by
  have wf:(Lit.int .i64 a).wf=true:=WalkArith.wf_i64 (by omega);obtain ⟨w2,hrun,hm,ht2⟩:=h.put hk he ht hn ha;obtain ⟨es,clock,hb,F,_,_⟩:=h.owns;obtain ⟨v0,st,w1,w2',h1,h2,h3,h4⟩:=entry_store (w:=w) (int_keyed hk) ht hz hb F (keyOf_int_mk hk wf) (.bool true);rw [hrun] at h4
  cases h4
  exact ⟨v0,st,w1,w2,h1,h2,h3,hm,ht2⟩
end MapAt
open Go.RowKit
def kp (d:Hd) (a:Nat) (t:Int):Option Addr:=if Hp.isEnd t then none else some ⟨d.gw,a+4,none⟩
theorem kids_some {ks:List Int} (h:S.kids a=some ks):∃ t,S.tag a=some t/\((Hp.isEnd t=true/\ks=[]) \/ (Hp.isEnd t=false/\S.fields a=some ks)):=by
 unfold Hp.Hs.kids at h
 simp only [Option.bind_eq_bind,Option.bind_eq_some_iff] at h
 obtain ⟨t,ht,h⟩:=h
 refine ⟨t,ht, ?_⟩
 cases he:Hp.isEnd t
 . rw [he] at h;exact .inr ⟨rfl,by simpa using h⟩
 rw [he] at h
 exact .inl ⟨rfl,by simpa using h.symm⟩
theorem kids_any {ks:List Int} (h:HAt w d S) (ht:S.tag a=some t) (hk:S.kids a=some ks) :
    Calls Tryz.prog 80 #[.pointer (some ⟨d.hb,0,none⟩),.int .i64 a] w fun e w'=>e = .returned (.slice (kp d a t) ks.length ks.length)/\Ext w w':=by
  obtain ⟨t',ht',hq⟩:=kids_some hk;rw [ht] at ht'
  cases ht'
  rcases hq with ⟨he,rfl⟩ | ⟨he,hf⟩
  . have:=kids_end h ht he
    simpa [kp,he] using this
  have:=kids_node h ht he hf
  simpa [kp,he] using this
theorem kids_at {ks:List Int} (h:HAt w d S) (ht:S.tag a=some t) (hk:S.kids a=some ks):SliceAt w (kp d a t) ks.length ks:=by
 obtain ⟨t',ht',hq⟩:=kids_some hk
 rw [ht] at ht'
 cases ht'
 rcases hq with ⟨he,rfl⟩ | ⟨he,hf⟩
 . exact ⟨Nat.le_refl _,by simp,by simp,fun h=>by simp at h⟩
 have:=fields_at h hf
 simpa [kp,he] using this
theorem lay_ck (h:Hp.chain t fs=some k):(∀ x ∈ fs,-9223372036854775808<=x/\x<=9223372036854775807) /\ -4611686018427387904 < t/\t < 4611686018427387904/\k < 16:=by
 simp only [Hp.chain,Option.bind_eq_bind,Option.bind_eq_some_iff,Option.pure_def,Option.some.injEq] at h
 obtain ⟨t',ht,n0,hn,r,hr,rfl⟩:=h
 obtain ⟨rfl,h1,h2⟩:=ck_some ht
 refine ⟨?_,h1,h2,by omega⟩
 clear ht hn h1 h2
 generalize (0:Int)=i at hr
 induction fs generalizing i n0 with
 | nil=>intro x hx;cases hx
 | cons f l ih=>
  simp only [Hp.sums,Option.bind_eq_bind,Option.bind_eq_some_iff] at hr;obtain ⟨f',hf,m,hm,hr⟩:=hr;obtain ⟨rfl,h1,h2⟩:=ck_some hf;intro x hx
  rcases List.mem_cons.1 hx with rfl | hx
  . omega
  exact ih _ _ hr x hx
theorem Now.copied (h:Now w0 w d S) (hs:SliceAt w p c l) (h0:0 < l.length) (hw:Hp.lay S.words i l=some W)
    (hc:∀ x ∈ l,-9223372036854775808<=x/\x<=9223372036854775807):∃ w',(∀ n c' ty,l.length<=n->(Builtin.copy_ #[22,22] ty #[.slice (some ⟨d.gw,i,none⟩) n c',.slice p l.length c]).run Tryz.prog w = .ok (goInt (l.length:Nat)) w')/\Now w0 w' d { S with words:=W } /\ (∀ {p' c' l'},SliceAt w p' c' l'->(∀ b o,p'=some ⟨b,o,none⟩->b ≠ d.gw)->SliceAt w' p' c' l'):=by
  obtain ⟨b,o,rfl,hb,hx⟩:=hs.cells h0;obtain ⟨s,hg⟩:=h.words.row;have hl:=HAt.lay_len hw;have hfit:i+(ints l).length<=(ints S.words ++ s).toArray.size:=by simp [ints];omega
  have k1:But [d.gw] w (w.setRow d.gw (splice (ints S.words ++ s) i (ints l)).toArray):=(But.refl _ _).setRow (.inl (by simp)) _;refine ⟨w.setRow d.gw (splice (ints S.words ++ s) i (ints l)).toArray,fun n c' ty hn=>?_,⟨?_,(h.but).setRow (.inl d.gw_own) _⟩,fun hs' hne=>hs'.but k1 (fun b o e hm=>hne b o e (by simpa using hm))⟩
  . have hm:Nat.min l.length n=l.length:=Nat.min_eq_left hn;have:=run_copy_rowK (P:=Tryz.prog) w 22 22 ty 3 1 d.gw i n c' ⟨b,o,none⟩ l.length c _ 3 (ints l) Tryz.underlying22 (by kernel_rfl) hg (by rw [hm];simp [ints]) (fun j v hj=>by
     rw [Addr.add_lit];obtain ⟨hj1,hj2⟩:=List.getElem?_eq_some_iff.1 hj;have hj3:j < l.length:=by simpa [ints] using hj1
     rw [hx j l[j] (List.getElem?_eq_getElem hj3),<- hj2];simp [ints]) hfit (fun v hv=>by
     obtain ⟨x,_,rfl⟩:=List.mem_map.1 hv;rfl)
    rw [hm] at this;rw [this];simp only [List.toList_toArray,splice,List.append_assoc]
  refine h.toHAt.turn (k1.mono (by simp)) (h.words.spliced hw hc (fun cur hcur hle=>?_)) hl.1 (h.map.but k1 (by simp [h.apart3.symm])) (fun a ha=>by rw [hl.1];exact h.below a ha);rw [hg] at hcur;have e:cur=ints S.words ++ s:=by
   have:=Option.some.inj hcur;injection this with e1
   simpa using e1.symm
  subst e;exact setRow_heap w d.gw _ _ _ _ hg
theorem add_some {tag:Int} {r:Nat} (h:S.add tag fs=some (r,S')):∃ a0,S.look tag fs=some a0/\((a0 ≠ 0/\r=a0/\S'=S) \/ (a0=0 /\ ∃ k a W,Hp.wide S.sizes tag=some k/\S.take k=some (a,W) /\
    ((a=0/\r=0/\S' = { S with words:=W }) \/ (a ≠ 0/\r=a /\ ∃ head x W1 W2 W3 W4 ks W5,Hp.chain tag fs=some head/\Hp.rd W head=some x/\Hp.wr W a tag=some W1/\Hp.wr W1 (a+3) x=some W2/\Hp.lay W2 (a+4) fs=some W3/\Hp.wr W3 head a=some W4 /\
     Hp.Hs.kids { S with words:=W4,taken:=Hp.Hs.insert a S.taken } a=some ks/\Hp.Hs.use 1 ks.length (a+4) W4=some W5/\S' = { S with words:=W5,taken:=Hp.Hs.insert a S.taken })))):=by
  unfold Hp.Hs.add at h;simp only [Option.bind_eq_bind,Option.bind_eq_some_iff] at h;obtain ⟨a0,h0,h⟩:=h;refine ⟨a0,h0, ?_⟩
  split at h
  . rename_i hne;simp only [Option.some.injEq,Prod.mk.injEq] at h;exact .inl ⟨hne,h.1.symm,h.2.symm⟩
  rename_i hne;simp only [Option.bind_eq_some_iff] at h;obtain ⟨k,hk,⟨a,W⟩,hW,h⟩:=h;refine .inr ⟨by omega,k,a,W,hk,hW, ?_⟩;simp only at h
  split at h
  . rename_i ha;simp only [Option.some.injEq,Prod.mk.injEq] at h;exact .inl ⟨ha,h.1.symm,h.2.symm⟩
  rename_i ha;simp only [Option.bind_eq_some_iff,Option.some.injEq,Prod.mk.injEq] at h;obtain ⟨head,h1,x,h2,W1,h3,W2,h4,W3,h5,W4,h6,ks,h7,W5,h8,rfl,rfl⟩:=h;exact .inr ⟨ha,rfl,head,x,W1,W2,W3,W4,ks,W5,h1,h2,h3,h4,h5,h6,h7,h8,rfl⟩
theorem use_succ {by':Int} {W':List Int} (h:Hp.Hs.use by' (n+1) j W=some W'):∃ k v W1,Hp.ra W j=some k/\Hp.rc W (k+1)=some v/\Hp.wr W (k+1) (v+by')=some W1/\Hp.Hs.use by' n (j+1) W1=some W':=by
 simp only [Hp.Hs.use,Option.bind_eq_bind,Option.bind_eq_some_iff] at h
 obtain ⟨k,hk,v,hv,W1,hW,h⟩:=h
 exact ⟨k,v,W1,hk,hv,hW,h⟩
theorem takeFrom_len:∀ {n:Nat} {W W':List Int} {wide link r:Nat},Hp.Hs.takeFrom W wide n link=some (r,W')->W'.length=W.length
 | 0,_,_,_,_,_,h=>by simp [Hp.Hs.takeFrom] at h
 | n+1,W,W',wide,link,r,h=>by
  obtain ⟨n',a,hn,_,hq⟩:=takeFrom_succ h
  rcases hq with ⟨_,_,rfl⟩ | ⟨_,v,next,_,_,hq⟩
  . rfl
  rcases hq with ⟨_,_,W1,h1,h2⟩ | ⟨_,_,_,W1,W2,W3,W4,h1,h2,h3,h4,h5⟩ | ⟨_,_,h1⟩
  . rw [(HAt.zero_len h2).1,(HAt.wr_len h1).1]
  . rw [(HAt.zero_len h5).1,(HAt.wr_len h4).1,(HAt.wr_len h3).1,(HAt.wr_len h2).1,(HAt.wr_len h1).1]
  obtain rfl:n=n':=by omega
  exact takeFrom_len h1
theorem Now.len (h:Now w0 w d S) (e:S.words.length=n):w.cell? ⟨d.hb,2,none⟩=some (.slice (some ⟨d.gw,0,none⟩) n d.cap):=by
 rw [<- e]
 exact h.c2
set_option maxRecDepth 100000 in
set_option maxHeartbeats 8000000 in
theorem add_any {r:Nat} {tag:Int} (h:HAt w d S) (hf:SliceAt w p c l) (h0:0 < l.length) (far:∀ b o,p=some ⟨b,o,none⟩->b ∉ d.own) (hr:S.add tag l=some (r,S')) :
    Calls Tryz.prog 107 #[.pointer (some ⟨d.hb,0,none⟩),.int .i64 tag,.slice p l.length c] w (Turned d w (.int .i64 r) S'):=by
  obtain ⟨a0,hL,hq⟩:=add_some hr;have HL:=hZ hL;have HF:=hZ hf;have FAR:=hZ far;have H:=hZ (Now.refl h);clear hL hr
  rcases hq with ⟨hne,rfl,rfl⟩ | ⟨rfl,k,a,W,hk,hT,hq⟩
  . have t0:((r:Int) != 0)=true:=by simpa using hne
    clear h hf far;go_enter Tryz.func107,Tryz.ntmps107
    go_wp2_with (go_at_call 110;refine (look_any H.out.toHAt HF.out HL.out).mono ?_;rintro e w1 ⟨rfl,hb1⟩;obtain ⟨hc1,hf1,hs1⟩:=hb1.cells)
    go_returns;exact (H.out.ext hb1).done
  have hwk:=wide_le h hk;have c0:=h.c0;have c1:=h.c1;have z1:=h.lt;have hle:=h.le;have hcap:=h.cap;have ap:=h.apart1;have ap':=h.apart1.symm;have ap2:=h.apart2;have ap3:=h.apart3;have HK:=hZ hk;have HT:=hZ hT;clear h hf far hk hT
  rcases hq with ⟨rfl,rfl,rfl⟩ | ⟨ha,rfl,head,x,W1,W2,W3,W4,ks,W5,hch,hx,hW1,hW2,hW3,hW4,hks,hW5,rfl⟩
  . go_enter Tryz.func107,Tryz.ntmps107
    go_wp2_with (first
     | (go_at_call 110;refine (look_any H.out.toHAt HF.out HL.out).mono ?_;rintro e w1 ⟨rfl,hb1⟩;obtain ⟨hc1,hf1,hs1⟩:=hb1.cells)
     | (go_at_call 123;refine (wide_any (H.out.ext hb1).sizes HK.out (by omega)).mono ?_;rintro e w2 ⟨rfl,hb2⟩;obtain ⟨hc2,hf2,hs2⟩:=hb2.cells)
     | (go_at_call 157;refine (take_any ((H.out.ext hb1).ext hb2).toHAt (by omega) (by omega) HT.out).mono ?_;rintro e w3 ⟨rfl,hA3,hB3⟩))
    go_returns;exact ⟨rfl,hA3,(But.ofExt (hb1.trans hb2)).trans hB3⟩
  have t0:((r:Int) == 0)=false:=by simpa using ha
  have e0:W.length=S.words.length:=takeFrom_len HT.out;have e1:=(HAt.wr_len hW1).1.trans e0;have e2:=(HAt.wr_len hW2).1.trans e1;have e3:=(HAt.lay_len hW3).1.trans e2;have e4:=(HAt.wr_len hW4).1.trans e3;have b0:=rd_lt hx;rw [e0] at b0;have b1:=(HAt.wr_len hW1).2;rw [e0] at b1;have b2:=(HAt.wr_len hW2).2;rw [e1] at b2;have b3:=(HAt.lay_len hW3).2;rw [e2] at b3;obtain ⟨hck,ht1,ht2,hh⟩:=lay_ck hch;have LCK:=hZ hck;have HCH:=hZ hch;have HX:=hZ hx;have EW1:=hZ hW1;have EW2:=hZ hW2;have EW3:=hZ hW3;have EW4:=hZ hW4;have EW5:=hZ hW5;have HKS:=hZ hks;generalize hn:S.words.length=n at hle e0 e1 e2 e3 e4 b0 b1 b2 b3;have E0:=hZ e0;have E1:=hZ e1;have E2:=hZ e2;have E3:=hZ e3;have E4:=hZ e4;have EN:=hZ hn;clear hn e0 e1 e2 e3 e4 hch hx hW1 hW2 hW3 hW4 hW5 hks hck;go_enter Tryz.func107,Tryz.ntmps107
  go_upto_region 8 with (first
   | (go_at_call 110;refine (look_any H.out.toHAt HF.out HL.out).mono ?_;rintro e w1 ⟨rfl,hb1⟩;obtain ⟨hc1,hf1,hs1⟩:=hb1.cells)
   | (go_at_call 123;refine (wide_any (H.out.ext hb1).sizes HK.out (by omega)).mono ?_;rintro e w2 ⟨rfl,hb2⟩;obtain ⟨hc2,hf2,hs2⟩:=hb2.cells)
   | (go_at_call 157;refine (take_any ((H.out.ext hb1).ext hb2).toHAt (by omega) (by omega) HT.out).mono ?_;rintro e w3 ⟨rfl,hA3,hB3⟩;have B3:=(But.ofExt (hb1.trans hb2)).trans hB3;have F3:=HF.out.but B3 FAR.out;have N3:=hZ (Now.mk hA3 B3);clear hA3)
   | (go_at_call 132;refine (chain_any F3 HCH.out).mono ?_;rintro e w4 ⟨rfl,hb4⟩;obtain ⟨hc4,hf4,hs4⟩:=hb4.cells))
  have N4:=hZ (N3.out.ext hb4);clear c0 c1 z1 hB3 B3 F3 hb1 hb2 hb4 N3;have c2:=N4.out.len E0.out;have z1:=N4.out.lt;have z2:=N4.out.words.lt;have g:=N4.out.words.get HX.out;obtain ⟨k1,k2,k3,k4⟩:IntKind.i64.wrap (((r:Nat):Int)+3)=((r:Nat):Int)+3/\(0:Int)<=((r:Nat):Int)+3/\((r:Nat):Int)+3 < ((n:Nat):Int)/\(((r:Nat):Int)+3).toNat=r+3:=⟨IntWalk.i64_in _ (by omega),by omega,by omega,by omega⟩
  have k5:IntKind.i64.wrap (r:Int)=r:=IntWalk.i64_in _ (by omega);refine wp_region_any (by kernel_rfl) ?_;refine' tkA 10 rfl ?hy10_51 ?_
  case hy10_51=>(intro w;go_simp;try with_reducible rfl)
  refine layy ?_;refine' tkA 11 rfl ?hy11_52 ?_
  case hy11_52=>(intro w;go_simp;try with_reducible rfl)
  refine layy ?_;have pr4a:=fun u_ (h_:Ext w4 u_)=>(h_.cell z1 2).trans c2
  have pr4b:=fun u_ (h_:Ext w4 u_)=>(h_.cell z2 head).trans g
  refine wpAny_to_X (S:=fun W=>Ext w4 W) (R:=Ext) 20 18 Ext.refl ?_ ?_ (by rfl)
  . exact Ext.drew exx
  refine' tkY 0 ?_;refine' tkY 1 ?_;refine' tkY 2 ?_;refine' tkY 3 ?_;refine' tkY 4 ?_;refine' tkY 5 ?_;refine' tkY 6 ?_;refine' tkY 7 ?_;refine' tkY 8 ?_;refine' tkY 9 ?_;refine' tkY 12 ?_;refine' tkY 13 ?_;refine' tkY 14 ?_;refine' tkY 15 ?_;refine' tkY 16 ?_;refine' tkY 17 ?_;refine' tkY 18 ?_;refine' tkY 19 ?_;refine wpAnyX_done (by kernel_rfl) ?_;intro w5 _ Ew5;clear pr4a pr4b;simp only [List.drop_succ_cons,List.drop_zero];clear c2 z1 z2 g k1 k2 k3 k4 k5;have N5:=hZ (N4.out.ext Ew5);obtain ⟨y1,hy1⟩:=rd_get (l:=W) (j:=r) (by rw [E0.out];exact b1);obtain ⟨y2,hy2⟩:=rd_get (l:=W) (j:=r+3) (by rw [E0.out];exact b2);have g1:=N5.out.words.get hy1;have g2:=N5.out.words.get hy2;have f1:=N5.out.words.froz r;have f2:=N5.out.words.froz (r+3);have z2:=N5.out.words.lt;have HB:=N5.out.words.bound HX.out;have hb1:=HB.1;have hb2:=HB.2;clear hy1 hy2 HB;have N6:=hZ ((N5.out.set EW1.out (by omega) (by omega)).set EW2.out hb1 hb2);go_upto_region 9 with (fail)
  refine Now.cut N6.out ?_;clear N6 N5 N4 g1 g2 f1 f2 z2;intro w6 N6';have N6:=hZ N6';clear N6' Ew5;have F6:=HF.out.but N6.out.but FAR.out;obtain ⟨w7,hcp,N7',-⟩:=N6.out.copied F6 h0 EW3.out LCK.out;have hcp':=fun ty=>hcp (n-(r+4)) (d.cap-(r+4)) ty (by omega)
  have N7:=hZ N7';have c2:=N6.out.len E2.out;have z1:=N6.out.lt;clear hcp N7' F6;go_upto_region 10 with (fail)
  clear hcp' c2 z1 N6;have c2:=N7.out.len E3.out;have c3:=N7.out.c3;have z1:=N7.out.lt;refine wp_region_any (by kernel_rfl) ?_;refine' tkA 9 rfl ?hy9_71 ?_
  case hy9_71=>(intro w;go_simp;try with_reducible rfl)
  refine layy ?_;have pr5a:=fun u_ (h_:Ext w7 u_)=>(h_.cell z1 2).trans c2
  have pr5b:=fun u_ (h_:Ext w7 u_)=>(h_.cell z1 3).trans c3
  refine wpAny_to_X (S:=fun W=>Ext w7 W) (R:=Ext) 11 10 Ext.refl ?_ ?_ (by rfl)
  . exact Ext.drew exx
  refine' tkY 0 ?_;refine' tkY 1 ?_;refine' tkY 2 ?_;refine' tkY 3 ?_;refine' tkY 4 ?_;refine' tkY 5 ?_;refine' tkY 6 ?_;refine' tkY 7 ?_;refine' tkY 8 ?_;refine' tkY 10 ?_;refine wpAnyX_done (by kernel_rfl) ?_;intro w8 _ Ew8;clear pr5a pr5b;simp only [List.drop_succ_cons,List.drop_zero];clear c2 c3 z1;have N8:=hZ (N7.out.ext Ew8);obtain ⟨y1,hy1⟩:=rd_get (l:=W3) (j:=head) (by rw [E3.out];exact b0);have g1:=N8.out.words.get hy1;have f1:=N8.out.words.froz head;have N9:=hZ (N8.out.set EW4.out (by omega) (by omega));have hb1:∀ a' ∈ Hp.Hs.insert r S.taken,a' < n:=fun a' ha'=>by
   rcases (mem_ins r a' S.taken).1 ha' with rfl | h'
   . omega
   have:=N9.out.below a' h';rw [E4.out] at this;exact this
  obtain ⟨v0,st,x1,x2,hm1,-,hm2,hm3,hm4⟩:=N9.out.map.enter (t:=102) Tryz.underlying3 Tryz.underlying4 Tryz.underlying102 (fun u=>Tryz.zeroValue4 u) (by have:=N9.out.taken_len;have:=N9.out.small;unfold maxLen;omega) (a:=r) (by omega);unfold goInt at hm1 hm2;have N10:=hZ (N9.out.mapped hm4 hm3 (fun a' ha'=>by rw [E4.out];exact hb1 a' ha'));clear hb1 hm3 hm4 hy1;go_upto_region 11 with (fail)
  clear hm1 hm2 g1 f1 N9 N8 N7 Ew8;obtain ⟨t',ht',hkq⟩:=kids_some HKS.out;have HT':=hZ ht';have HKQ:=hZ hkq;clear ht' hkq;have K10:=hZ (kids_at N10.out.toHAt HT'.out HKS.out)
  go_wp2_with (go_at_call 80;refine (kids_any N10.out.toHAt HT'.out HKS.out).mono ?_;rintro e w1 ⟨rfl,hb1⟩;obtain ⟨hc1,hf1,hs1⟩:=hb1.cells)
  have N11:=hZ (N10.out.ext hb1);generalize hpk:kp d r t'=pk;have HPK:=hZ hpk;have hb4':=HKQ.out;have hks:ks.length<=1000000:=by
   rcases hb4' with ⟨_,rfl⟩ | ⟨_,hf'⟩
   . simp
   obtain ⟨_,q,_,_,h4,h5,_⟩:=fields_some hf';have:=N10.out.small;simp only at h5 this;omega
  clear hpk N10 K10 hb1 hc1 hf1 hs1 hb4'
  go_loopg [81] ks.length (fun g i wr=>∃ (j:Nat) (V:List Int),j<=ks.length/\ks.length-j<=g/\i = .int .i64 j/\Hid (Now w wr d { S with words:=V,taken:=Hp.Hs.insert r S.taken })/\Hid (Hp.Hs.use 1 (ks.length-j) (r+4+j) V=some W5)/\Hid (V.length=n))
  case atStart=>exact ⟨0,W4,Nat.zero_le _,by omega,rfl,N11,EW5,E4⟩
  case round=>
   obtain ⟨j,V,hj,hg,rfl,NV,HU,HV⟩:=hrel;clear N11
   by_cases hlt:j < ks.length
   . obtain rfl:pk=some ⟨d.gw,r+4,none⟩:=by
       rw [<- HPK.out]
       rcases HKQ.out with ⟨_,rfl⟩ | ⟨he,_⟩
       . simp at hlt
       simp [kp,he]
     have hu:=HU.out;rw [show ks.length-j=(ks.length-(j+1))+1 by omega] at hu;obtain ⟨kid,v,V1,h1,h2,h3,h4⟩:=use_succ hu;obtain ⟨h2,v1,v2⟩:=rc_some h2;have g1:=NV.out.words.get (ra_some h1);have g2:=NV.out.words.get h2;have f1:=NV.out.words.froz (kid+1);have c2:=NV.out.len HV.out;have l2:=rd_lt h2;rw [HV.out] at l2;have NV1:=hZ (NV.out.set h3 (by omega) (by omega));have HV1:=hZ ((HAt.wr_len h3).1.trans HV.out);have HU1:=hZ h4;clear hu h1 h2 h3 h4 NV HU HV
     go_wp2_with fail
     go_roundg (ks.length-(j+1))
     case measure=>omega
     case rel=>exact ⟨j+1,V1,by omega,Nat.le_refl _,by go_num,NV1,HU1,HV1⟩
   have:j=ks.length:=by omega
   subst this;have hu:=HU.out;rw [Nat.sub_self] at hu;obtain rfl:V=W5:=by simpa [Hp.Hs.use] using hu
   clear hu HU EW5
   go_wp2_with fail
   go_returns;exact NV.out.done
open Go.RowKit Go.Maps Go.WideElems Go.ChangeMaps
namespace MapAt
variable {P:Program} {w:World} {g:Nat} {T:List Nat} {t:TypeId}
theorem clear (h:MapAt P w g T) (ht:P.underlying t=some (.map 3 4)) (ty:TypeId) :
    ∃ w',(Builtin.clear_ #[t] ty #[.map (some g)]).run P w = .ok (.tuple #[]) w'/\MapAt P w' g []/\w.mapTurned w' g:=by
  obtain ⟨es,clock,hb,F,hs,hD⟩:=h.owns;refine ⟨setBlock w g (.map #[] clock), ?_,⟨⟨#[],clock,heap_setBlock_same hb _,⟨by simp,MapKept.stamped_empty _,by simp⟩,by simp,by simp [mapOf]⟩,List.Pairwise.nil⟩,⟨es,clock,#[],clock,hb,rfl⟩⟩;simp [Builtin.clear_,run_underlying ht,MapKept.run_getObj_map hb,MapKept.run_setObj_map _ hb,Result.andThen,setBlock]
end MapAt
open Go
section
variable {P:Program} {ops:Array Oper} {Q:Exit->Act->World->Prop} {md:Region.Mode} {S S':World->Prop} {R:World->World->Prop}
theorem wpAnyR.weaken (hSS:∀ w,S' w->S w) (hcl:∀ a b,S' a->R a b->S' b):∀ {fuel:Nat} {listed:Array Bool} {a:Act} {w:World},S' w->wpAnyR P md ops Q S' R fuel listed a w->wpAnyR P md ops Q S R fuel listed a w
 | 0,_,_,_,hw,h=>⟨h.1,fun w' r _=>h.2 w' r (hcl _ _ hw r)⟩
 | _+1,_,_,_,hw,h=>fun w' r _=>by
  obtain ⟨h1,h2⟩:=h w' r (hcl _ _ hw r);refine ⟨h1,fun i hi=>wpOp_mono ?_ (h2 i hi)⟩;rintro a' w'' ⟨hs,hk⟩;exact ⟨hSS _ hs,hk.weaken hSS hcl hs⟩
theorem wpAnyR_do {oi:Oper} {fuel:Nat} {listed:Array Bool} {a:Act} (V:Value->World->Prop) (hR:∀ w,R w w) (hT:∀ a b c,R a b->R b c->R a c) (hi:ops[i]? = some oi)
    (hr0:i ∈ Region.ready md ops listed) (hr:∀ j ∈ Region.ready md ops listed,j=i) (hw:Region.wanted oi (yielded ops a.tmps)=true)
    (hrun:∀ w',R w w'->S w'->(∃ f args,(execOp a.eval oi).run P w' = .ok (.enter f args) w'/\Calls P f args w' fun e w''=>∃ v,e = .returned v/\V v w'') \/ ∃ v w'',(execOp a.eval oi).run P w' = .ok (.value v) w''/\V v w'')
    (hVS:∀ v w'',V v w'' -> ∀ W,R w'' W->S W)
    (h:∀ v w'',V v w''->wpAnyR P md ops Q (fun W=>R w'' W) R fuel (listed.setIfInBounds i true) (a.put oi.dst v) w''):wpAnyR P md ops Q S R (fuel+1) listed a w:=by
  intro w' r s;refine ⟨fun e=>(by rw [e] at hr0;cases hr0),fun j hj=>?_⟩
  obtain rfl:j=i:=hr j hj;have key:∀ v w'',V v w''->S w''/\wpAnyR P md ops Q S R fuel (listed.setIfInBounds j true) (a.put oi.dst v) w'':=fun v w'' hv=>
   ⟨hVS v w'' hv _ (hR _),(h v w'' hv).weaken (hVS v w'' hv) (fun x y h1 h2=>hT _ _ _ h1 h2) (hR _)⟩
  unfold Go.wpOp;simp only [hi];rw [if_pos hw];refine .inl ?_;unfold Oper.wp
  rcases hrun w' r s with ⟨f,args,he,hc⟩ | ⟨v,w'',he,hv⟩
  . rw [he];refine hc.mono ?_;rintro e w'' ⟨v,rfl,hv⟩;exact key v w'' hv
  rw [he];exact key v w'' hv
end
end Go.Proofs.YtdokmmhjmclmnaaGreat
