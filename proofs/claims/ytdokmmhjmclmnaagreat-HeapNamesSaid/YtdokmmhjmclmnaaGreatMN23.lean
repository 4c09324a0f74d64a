/-
  Part 23 of a proof: RegDo RegPlan HFn39 HFn40 HFn41 HFn42 HFn43 HFn44 HFn45 RH1 RH2 RH3 RH4 RH5 LH2 LH3 LH4 LH5 LH6 LH7 RH6 RH7 RegDo1 LHO.
-/
import Derived.BigRegion
import Derived.ChangeMaps5
import Derived.Deep.AppendLies
import Derived.Deep.Slices
import Derived.Lib.SmallJoins
import Derived.OpenShut
import Derived.ProofKit
import Derived.Test.YtdokmmhjmclmnaaGreatRows
import Derived.Test.YtdokmmhjmclmnaaGreatMN01
import Derived.Test.YtdokmmhjmclmnaaGreatMN04
import Derived.Test.YtdokmmhjmclmnaaGreatMN11
import Derived.Test.YtdokmmhjmclmnaaGreatMN12
import Derived.Test.YtdokmmhjmclmnaaGreatMN16
import Derived.Test.YtdokmmhjmclmnaaGreatMN17
import Derived.Test.YtdokmmhjmclmnaaGreatMN19
import Derived.Test.YtdokmmhjmclmnaaGreatMN21
import Derived.Test.YtdokmmhjmclmnaaGreatMN22
set_option linter.unusedSimpArgs false
set_option linter.unusedVariables false
set_option linter.unusedSectionVars false
set_option linter.unnecessarySimpa false
namespace Go.Proofs.YtdokmmhjmclmnaaGreat
open Go
section
variable {P:Program} {ops:Array Oper} {Q:Exit → Act → World → Prop} {md:Region.Mode} {S S':World → Prop} {R:World → World → Prop}
theorem wpAnyR.weaken (hSS:∀ w,S' w → S w) (hcl:∀ a b,S' a → R a b → S' b):∀ {fuel:Nat} {listed:Array Bool} {a:Act} {w:World},S' w → wpAnyR P md ops Q S' R fuel listed a w → wpAnyR P md ops Q S R fuel listed a w
 | 0,_,_,_,hw,h=>⟨h.1,fun w' r _=>h.2 w' r (hcl _ _ hw r)⟩
 | _+1,_,_,_,hw,h=>fun w' r _=>by
  obtain ⟨h1,h2⟩:=h w' r (hcl _ _ hw r);refine ⟨h1,fun i hi=>wpOp_mono ?_ (h2 i hi)⟩;rintro a' w'' ⟨hs,hk⟩;exact ⟨hSS _ hs,hk.weaken hSS hcl hs⟩
theorem wpAnyR_do {i:Nat} {oi:Oper} {fuel:Nat} {listed:Array Bool} {a:Act} {w:World} (V:Value → World → Prop) (hR:∀ w,R w w) (hT:∀ a b c,R a b → R b c → R a c) (hi:ops[i]? = some oi)
    (hr0:i ∈ Region.ready md ops listed) (hr:∀ j ∈ Region.ready md ops listed,j=i) (hw:Region.wanted oi (yielded ops a.tmps)=true)
    (hrun:∀ w',R w w' → S w' → (∃ f args,(execOp a.eval oi).run P w' = .ok (.enter f args) w' ∧ Calls P f args w' fun e w''=>∃ v,e = .returned v ∧ V v w'') ∨ ∃ v w'',(execOp a.eval oi).run P w' = .ok (.value v) w'' ∧ V v w'')
    (hVS:∀ v w'',V v w'' → ∀ W,R w'' W → S W)
    (h:∀ v w'',V v w'' → wpAnyR P md ops Q (fun W=>R w'' W) R fuel (listed.setIfInBounds i true) (a.put oi.dst v) w''):wpAnyR P md ops Q S R (fuel+1) listed a w:=by
  intro w' r s;refine ⟨fun e=>(by rw [e] at hr0;cases hr0),fun j hj=>?_⟩
  obtain rfl:j=i:=hr j hj;have key:∀ v w'',V v w'' → S w'' ∧ wpAnyR P md ops Q S R fuel (listed.setIfInBounds j true) (a.put oi.dst v) w'':=fun v w'' hv=>
   ⟨hVS v w'' hv _ (hR _),(h v w'' hv).weaken (hVS v w'' hv) (fun x y h1 h2=>hT _ _ _ h1 h2) (hR _)⟩
  unfold Go.wpOp;simp only [hi];rw [if_pos hw];refine .inl ?_;unfold Oper.wp
  rcases hrun w' r s with ⟨f,args,he,hc⟩ | ⟨v,w'',he,hv⟩
  · rw [he];refine hc.mono ?_;rintro e w'' ⟨v,rfl,hv⟩;exact key v w'' hv
  · rw [he];exact key v w'' hv
end
section
variable {P:Program} {ops:Array Oper} {Q:Exit → Act → World → Prop} {md:Region.Mode} {R:World → World → Prop}
def stepOk (md:Region.Mode) (ops:Array Oper) (k:Nat) (o:Oper) (b:Bool) (l:List Oper):Bool:=
 o.after.all (fun e=>!Region.binds md e || decide (e.on < k)) &&
 (if b then l.all (fun oj=>oj.after.any fun e=>Region.binds md e && decide (k ≤ e.on)) else l.all (fun oj=>oj.after.any (fun e=>Region.binds md e && e.on == k) || o.apart ops oj))
def planL (md:Region.Mode) (ops:Array Oper):List Oper → List Bool → Nat → Bool
 | [],[],_=>true
 | o :: l,b :: r,k=>stepOk md ops k o b l && planL md ops l r (k+1)
 | _,_,_=>false
structure Upto (ops:Array Oper) (k:Nat) (listed:Array Bool):Prop where
 size:listed.size=ops.size
 at_:∀ (j:Nat) (d:Bool),j < ops.size → listed.getD j d=decide (j < k)
theorem Upto.set {k:Nat} {listed:Array Bool} (h:Upto ops k listed):Upto ops (k+1) (listed.setIfInBounds k true):=by
 refine ⟨by simp [h.size],fun j d hj=>?_⟩
 by_cases e:k=j
 · subst e;have:k < listed.size:=by rw [h.size];exact hj
   simp [this]
 · rw [getD_set_ne d e,h.at_ j d hj];have:(j < k+1)=(j < k):=by
    apply propext;omega
   simp only [this]
inductive Plan (P:Program) (ops:Array Oper) (Q:Exit → Act → World → Prop) (R:World → World → Prop):(World → Prop) → List Oper → List Bool → Act → World → Prop
 | done {S:World → Prop} {a:Act} {w:World} (h:∀ w',R w w' → S w' → Q .normal a w'):Plan P ops Q R S [] [] a w
 | take {S:World → Prop} {o:Oper} {v:Value} {l:List Oper} {r:List Bool} {a:Act} {w:World} (hy:YieldsOn P ops S R o v a) (h:Plan P ops Q R S l r (a.put o.dst v) w):Plan P ops Q R S (o :: l) (false :: r) a w
 | run {S:World → Prop} {o:Oper} {l:List Oper} {r:List Bool} {a:Act} {w:World} (V:Value → World → Prop) (hw:Region.wanted o (yielded ops a.tmps)=true)
     (hrun:∀ w',R w w' → S w' → (∃ f args,(execOp a.eval o).run P w' = .ok (.enter f args) w' ∧ Calls P f args w' fun e w''=>∃ v,e = .returned v ∧ V v w'') ∨ ∃ v w'',(execOp a.eval o).run P w' = .ok (.value v) w'' ∧ V v w'')
     (hVS:∀ v w'',V v w'' → ∀ W,R w'' W → S W) (h:∀ v w'',V v w'' → Plan P ops Q R (fun W=>R w'' W) l r (a.put o.dst v) w''):Plan P ops Q R S (o :: l) (true :: r) a w
theorem any_mem {α:Type} {p:α → Bool} {xs:Array α} (h:xs.any p=true):∃ x,x ∈ xs ∧ p x=true:=by
 obtain ⟨i,hi,h⟩:=Array.any_eq_true.1 h
 exact ⟨xs[i],by simp,h⟩
theorem stepOk_ready {k:Nat} {o:Oper} {b:Bool} {l:List Oper} {listed:Array Bool} (hk:ops[k]? = some o) (hu:Upto ops k listed) (h:stepOk md ops k o b l=true):k ∈ Region.ready md ops listed:=by
 have hks:=(Array.getElem?_eq_some_iff.1 hk).1
 simp only [stepOk,Bool.and_eq_true] at h
 refine mem_ready.2 ⟨by rw [hu.at_ k _ hks];simp,o,hk,fun e he hb=>?_⟩
 have:=Array.all_eq_true_iff_forall_mem.1 h.1 e he
 rw [hb] at this
 simp only [Bool.not_true,Bool.false_or,decide_eq_true_eq] at this
 rw [hu.at_ e.on _ (by omega)]
 simpa using this
theorem Plan.anyR (hR:∀ w,R w w) (hT:∀ a b c,R a b → R b c → R a c) (hs:Region.noSelect ops=true) (hQ:∀ c a d v w,Q (.panic c) (Act.put a d v) w → Q (.panic c) a w) {S:World → Prop} {l:List Oper} {pl:List Bool} {a:Act} {w:World} (h:Plan P ops Q R S l pl a w) :
    ∀ {k:Nat} {listed:Array Bool},(∀ j:Nat,l[j]? = ops[k+j]?) → Upto ops k listed → planL md ops l pl k=true → wpAnyR P md ops Q S R l.length listed a w:=by
  induction h with
  | done h=>
   intro k listed hl hu _;refine wpAnyR_done ?_ h _;refine List.eq_nil_iff_forall_not_mem.2 fun j hj=>?_
   obtain ⟨h1,o,h2,_⟩:=mem_ready.1 hj;have hjs:=(Array.getElem?_eq_some_iff.1 h2).1;rw [hu.at_ j _ hjs] at h1;have h1:¬ j < k:=by simpa using h1
   have:=hl (j-k);rw [show k+(j-k)=j by omega,h2] at this;simp at this
  | @take S o v l r a w hy _ ih=>
   intro k listed hl hu hb;simp only [planL,Bool.and_eq_true] at hb;have hi:ops[k]? = some o:=by simpa using (hl 0).symm
   have hl':∀ j:Nat,l[j]? = ops[k+1+j]? := fun j=>by have:=hl (j+1);rw [show k+(j+1)=k+1+j by omega] at this;simpa using this
   refine wpAnyR_first hR hT hi (Region.noSelect_spec hs) (fun c a w h=>hQ c a _ _ w h) _ listed a w (fun j oj hoj hne hun hno=>?_) (stepOk_ready hi hu hb.1) hy (ih hl' hu.set hb.2);have hjs:=(Array.getElem?_eq_some_iff.1 hoj).1;rw [hu.at_ j _ hjs] at hun;have hun:¬ j < k:=by simpa using hun
   have hm:oj ∈ l:=by
    refine List.mem_of_getElem? (i:=j-(k+1)) ?_;rw [hl',show k+1+(j-(k+1))=j by omega];exact hoj
   have h1:=hb.1;simp only [stepOk,Bool.and_eq_true,Bool.false_eq_true,if_false] at h1;have h2:=List.all_eq_true.1 h1.2 oj hm;simp only [Bool.or_eq_true] at h2
   rcases h2 with h2 | h2
   · obtain ⟨e,he,h3⟩:=any_mem h2;simp only [Bool.and_eq_true,beq_iff_eq] at h3;exact absurd h3.2 (hno e he h3.1)
   · exact h2
  | @run S o l r a w V hw hrun hVS _ ih=>
   intro k listed hl hu hb;simp only [planL,Bool.and_eq_true] at hb;have hi:ops[k]? = some o:=by simpa using (hl 0).symm
   have hl':∀ j:Nat,l[j]? = ops[k+1+j]? := fun j=>by have:=hl (j+1);rw [show k+(j+1)=k+1+j by omega] at this;simpa using this
   refine wpAnyR_do V hR hT hi (stepOk_ready hi hu hb.1) (fun j hj=>?_) hw hrun hVS (fun v w'' hv=>ih v w'' hv hl' hu.set hb.2);obtain ⟨hun,oj,hoj,hall⟩:=mem_ready.1 hj;have hjs:=(Array.getElem?_eq_some_iff.1 hoj).1;rw [hu.at_ j _ hjs] at hun;have hun:¬ j < k:=by simpa using hun
   apply Classical.byContradiction;intro hne;have hm:oj ∈ l:=by
    refine List.mem_of_getElem? (i:=j-(k+1)) ?_;rw [hl',show k+1+(j-(k+1))=j by omega];exact hoj
   have h1:=hb.1;simp only [stepOk,Bool.and_eq_true,if_true] at h1;obtain ⟨e,he,h3⟩:=any_mem (List.all_eq_true.1 h1.2 oj hm);simp only [Bool.and_eq_true,decide_eq_true_eq] at h3;have h4:=hall e he h3.1
   rcases Nat.lt_or_ge e.on ops.size with h5 | h5
   · rw [hu.at_ e.on _ h5] at h4;have h4:e.on < k:=by simpa using h4
     omega
   · have:listed.size ≤ e.on:=by rw [hu.size];exact h5
     simp [Array.getD,show ¬ e.on < listed.size by omega] at h4
theorem wp_region_plan {S:World → Prop} {id:Nat} {l:List Oper} {a:Act} {w:World} (pl:List Bool) (hm:P.follows .mixedOrders=true) (hR:∀ w,R w w) (hT:∀ a b c,R a b → R b c → R a c) (hs:Region.noSelect l.toArray=true)
    (hQ:∀ c a d v w,Q (.panic c) (Act.put a d v) w → Q (.panic c) a w) (hb:planL .any l.toArray l pl 0=true) (hS:S w.drew)
    (h:∀ ops,ops=l.toArray → Plan P ops Q R S l pl a w.drew):(Code.region id l.toArray true).wp P Q a w:=by
  refine wp_region_seq hm hR hS ?_;exact (h _ rfl).anyR hR hT hs hQ (k:=0) (fun j=>by simp) ⟨by simp,fun j d hj=>by
   have:j < l.length:=by simpa using hj
   simp [Array.getD,this]⟩ hb
end
section
variable {P:Program} {ops L:Array Oper} {Q:Exit → Act → World → Prop} {R:World → World → Prop} {S:World → Prop} {o:Oper} {v:Value} {l:List Oper} {r:List Bool} {a:Act} {w:World}
theorem tkP (hops:RowKit.Hid (ops=L)) (hy:∀ w,S w → (execOp a.eval o).run P w = .ok (.value v) w) (h:Plan P ops Q R S l r (a.put o.dst v) w) (hw:Region.wanted o (yielded L a.tmps)=true:=by rfl):Plan P ops Q R S (o :: l) (false :: r) a w:=Plan.take (Or.inl (Or.inl ⟨by rw [hops.out];exact hw,hy⟩)) h
end
open Go.RowKit Go.Maps
theorem lookFrom_small {S:Hp.Hs} {tag:Int} {l:List Int} (hs:S.words.length ≤ 1000000):∀ {n a r:Nat},S.lookFrom tag l n a=some r → r ≤ 1000000
 | n,a,r,h=>by
  rcases lookFrom_succ h with ⟨_,rfl⟩ | ⟨_,n',t,f,hn,ht,_,h1⟩
  · omega
  · rcases h1 with ⟨_,_,rfl⟩ | ⟨_,a',_,h2⟩
    · have:=rd_lt ht;omega
    · subst hn;exact lookFrom_small hs h2
 termination_by n=>n
theorem takeFrom_small {wide:Nat}:∀ {n link r:Nat} {W W':List Int},W.length ≤ 1000000 → Hp.Hs.takeFrom W wide n link=some (r,W') → r ≤ 1000000
 | n,link,r,W,W',hs,h=>by
  obtain ⟨n',a,hn,_,hq⟩:=takeFrom_succ h
  rcases hq with ⟨_,rfl,_⟩ | ⟨_,v,next,hv,_,hq⟩
  · omega
  · have hv:=rd_lt (rc_some hv).1
    rcases hq with ⟨_,rfl,_⟩ | ⟨_,_,rfl,_⟩ | ⟨_,_,hq⟩
    · omega
    · omega
    · subst hn;exact takeFrom_small hs hq
 termination_by n=>n
theorem look_small {S:Hp.Hs} {tag:Int} {l:List Int} {r:Nat} (hs:S.words.length ≤ 1000000) (h:S.look tag l=some r):r ≤ 1000000:=by
 unfold Hp.Hs.look at h
 simp only [Option.bind_eq_bind,Option.bind_eq_some_iff] at h
 obtain ⟨_,_,_,_,h⟩:=h
 exact lookFrom_small hs h
theorem add_small {S S':Hp.Hs} {tag:Int} {l:List Int} {r:Nat} (hs:S.words.length ≤ 1000000) (h:S.add tag l=some (r,S')):r ≤ 1000000:=by
 obtain ⟨a0,hL,hq⟩:=add_some h
 rcases hq with ⟨_,rfl,_⟩ | ⟨_,k,a,W,_,hT,hq⟩
 · exact look_small hs hL
 · have:=takeFrom_small hs hT
   rcases hq with ⟨rfl,rfl,_⟩ | ⟨_,rfl,_⟩ <;> omega
theorem full_small {r:Nat} {S:Hp.Hs} {a e:Int} {S':Hp.Hs} (hr:r ≤ 1000000) (h:Hp.Hs.full (r,S)=(a,e,S')):0 ≤ a ∧ a ≤ 1000000 ∧ 0 ≤ e ∧ e ≤ 8:=by
 rw [full_eq] at h
 simp only [Prod.mk.injEq] at h
 obtain ⟨rfl,rfl,_⟩:=h
 unfold err8
 split <;> omega
theorem end_small {S S':Hp.Hs} {f n r e:Int} (hs:S.words.length ≤ 1000000) (h:S.end' f n=some (r,e,S')):0 ≤ r ∧ r ≤ 1000000 ∧ 0 ≤ e ∧ e ≤ 8:=by
 unfold Hp.Hs.end' at h
 split at h
 · simp only [Option.some.injEq,Prod.mk.injEq] at h;omega
 · simp only [Option.bind_eq_bind,Option.bind_eq_some_iff,Option.pure_def,Option.some.injEq] at h;obtain ⟨⟨a,S1⟩,ha,h⟩:=h;exact full_small (add_small hs ha) h
theorem checkNode_small {S:Hp.Hs} {a:Int} {l:List Int} {e:Int} (h:S.checkNode a l=some e):0 ≤ e ∧ e ≤ 8:=by
 unfold Hp.Hs.checkNode at h
 split at h
 · cases h
   omega
 · simp only [Option.bind_eq_bind,Option.bind_eq_some_iff] at h;obtain ⟨v,_,h⟩:=h
   split at h
   · cases h
     omega
   · split at h
     · cases h
       omega
     · simp only [Option.bind_eq_some_iff] at h;obtain ⟨b,_,h⟩:=h
       split at h
       · cases h
         omega
       · cases h
         omega
theorem make_wf {S S':Hp.Hs} {a:Int} {l:List Int} {r e:Int} (hs:S.words.length ≤ 1000000) (hl:∀ x ∈ l,-9223372036854775808 ≤ x ∧ x ≤ 9223372036854775807) (h:S.make a l=some (r,e,S')) : -9223372036854775808 ≤ r ∧ r ≤ 9223372036854775807 ∧ 0 ≤ e ∧ e ≤ 8:=by
 unfold Hp.Hs.make at h
 simp only [Option.bind_eq_bind,Option.bind_eq_some_iff] at h
 obtain ⟨e0,he,h⟩:=h
 have:=checkNode_small he
 split at h
 · simp only [Option.some.injEq,Prod.mk.injEq] at h;omega
 · split at h
   · simp only [Option.bind_eq_some_iff,Option.some.injEq,Prod.mk.injEq] at h;obtain ⟨k,hk,rfl,rfl,_⟩:=h;have:=hl k (List.mem_of_head? hk);omega
   · simp only [Option.bind_eq_some_iff,Option.pure_def,Option.some.injEq] at h;obtain ⟨⟨a',S1⟩,ha,h⟩:=h;have:=full_small (add_small hs ha) h;omega
structure ActOk (x:Hp.Act') (f:Nat):Prop where
 k0:0 ≤ x.kind
 fault:x.fault=f
 f2:f < 256
 n1 : -9223372036854775808 ≤ x.n
 n2:x.n ≤ 9223372036854775807
 a1 : -9223372036854775808 ≤ x.a
 a2:x.a ≤ 9223372036854775807
 len:x.list.length ≤ 1000
structure ScOk (s:Hp.Sc) (j:Nat):Prop where
 res:s.res.length=j
 ats:s.ats.length=j
 pos:∀ a ∈ s.ats,0 ≤ a
theorem ScOk.heap {s:Hp.Sc} {j:Nat} (h:ScOk s j) (S:Hp.Hs):ScOk { s with S:=S } j:=⟨h.res,h.ats,h.pos⟩
def ActIn (w:World) (b o:Nat) (x:Hp.Act'):Prop:=∃ q c f,ActOk x f ∧ w.cell? ⟨b,o,none⟩=some (.int .u8 x.kind) ∧ w.cell? ⟨b,o+1,none⟩=some (.int .i64 x.a) ∧ w.cell? ⟨b,o+2,none⟩=some (.slice q x.list.length c) ∧ w.cell? ⟨b,o+3,none⟩=some (.int .u8 f) ∧ w.cell? ⟨b,o+4,none⟩=some (.int .i64 x.n) ∧ SliceAt w q c x.list
structure ActsAt (w:World) (p:Option Addr) (c:Nat) (l:List Hp.Act'):Prop where
 le:l.length ≤ c
 cap:c ≤ 9223372036854775807
 cells:0 < l.length → ∃ b o,p=some ⟨b,o,none⟩ ∧ b < w.heap.size ∧ ∀ j x,l[j]? = some x → ActIn w b (o+j * 5) x
theorem ActsAt.ext {w w':World} {p:Option Addr} {c:Nat} {l:List Hp.Act'} (h:ActsAt w p c l) (k:Ext w w'):ActsAt w' p c l:=by
 refine ⟨h.le,h.cap,fun h0=>?_⟩
 obtain ⟨b,o,rfl,hb,hc⟩:=h.cells h0
 refine ⟨b,o,rfl,Nat.lt_of_lt_of_le hb k.le,fun j x hx=>?_⟩
 obtain ⟨q,c',f,ok,a0,a1,a2,a3,a4,hs⟩:=hc j x hx
 exact ⟨q,c',f,ok,(k.cell hb _).trans a0,(k.cell hb _).trans a1,(k.cell hb _).trans a2,(k.cell hb _).trans a3,(k.cell hb _).trans a4,hs.ext k⟩
structure Rd where
 rb:Nat
 sp:Option Addr
 sc:Nat
 op:Option Addr
 oc:Nat
 gb:Nat
 go:Nat
 wc:Nat
structure RAt (w:World) (r:Rd) (S:Hp.Hs):Prop where
 c0:w.cell? ⟨r.rb,0,none⟩=some (.slice r.sp S.sizes.length r.sc)
 c1:w.cell? ⟨r.rb,1,none⟩=some (.slice r.op S.order.length r.oc)
 c2:w.cell? ⟨r.rb,2,none⟩=some (.slice (some ⟨r.gb,r.go,none⟩) S.words.length r.wc)
 sizes:SliceAt w r.sp r.sc S.sizes
 order:SliceAt w r.op r.oc S.order
 words:SliceAt w (some ⟨r.gb,r.go,none⟩) r.wc S.words
namespace RAt
variable {w w':World} {r:Rd} {S:Hp.Hs}
theorem ext (h:RAt w r S) (k:Ext w w'):RAt w' r S:=
 ⟨(k.cell (cell_lt h.c0) 0).trans h.c0,(k.cell (cell_lt h.c0) 1).trans h.c1,(k.cell (cell_lt h.c0) 2).trans h.c2,h.sizes.ext k,h.order.ext k,h.words.ext k⟩
theorem get (h:RAt w r S) {j:Nat} (hj:j < S.words.length):w.cell? ⟨r.gb,r.go+j,none⟩=some (.int .i64 (Hp.ow S.words j)):=by
 obtain ⟨b,o,e,_,hc⟩:=h.words.cells (by omega)
 cases e
 exact hc j _ (Hp.rd_ow hj)
theorem lt (h:RAt w r S):r.rb < w.heap.size:=cell_lt h.c0
end RAt
open Go.RowKit Go.Maps
structure ActsW (w:World) (p:Option Addr) (c:Nat) (l:List Hp.Act'):Prop where
 le:l.length ≤ c
 cap:c ≤ 9223372036854775807
 cells:0 < l.length → ∃ b o,p=some ⟨b,o,none⟩ ∧ b < w.heap.size ∧ ∀ (j:Nat) (x:Hp.Act'),l[j]? = some x → ∃ q c f,ActOk { x with list:=[] } f ∧ w.cell? ⟨b,o+j * 5,none⟩=some (.int .u8 x.kind) ∧ w.cell? ⟨b,o+j * 5+1,none⟩=some (.int .i64 x.a) ∧ w.cell? ⟨b,o+j * 5+2,none⟩=some (.slice q x.list.length c) ∧ w.cell? ⟨b,o+j * 5+3,none⟩=some (.int .u8 f) ∧ w.cell? ⟨b,o+j * 5+4,none⟩=some (.int .i64 x.n) ∧ SliceAt w q c x.list
theorem ActsW.ext {w w':World} {p:Option Addr} {c:Nat} {l:List Hp.Act'} (h:ActsW w p c l) (k:Ext w w'):ActsW w' p c l:=by
 refine ⟨h.le,h.cap,fun h0=>?_⟩
 obtain ⟨b,o,rfl,hb,hc⟩:=h.cells h0
 refine ⟨b,o,rfl,Nat.lt_of_lt_of_le hb k.le,fun j x hx=>?_⟩
 obtain ⟨q,c',f,ok,a0,a1,a2,a3,a4,hs⟩:=hc j x hx
 exact ⟨q,c',f,ok,(k.cell hb _).trans a0,(k.cell hb _).trans a1,(k.cell hb _).trans a2,(k.cell hb _).trans a3,(k.cell hb _).trans a4,hs.ext k⟩
theorem ActsW.at_ {w:World} {p:Option Addr} {c:Nat} {l:List Hp.Act'} (h:ActsW w p c l) (hl:∀ x ∈ l,x.list.length ≤ 14):ActsAt w p c l:=by
 refine ⟨h.le,h.cap,fun h0=>?_⟩
 obtain ⟨b,o,rfl,hb,hc⟩:=h.cells h0
 refine ⟨b,o,rfl,hb,fun j x hx=>?_⟩
 obtain ⟨q,c',f,ok,hr⟩:=hc j x hx
 exact ⟨q,c',f,⟨ok.k0,ok.fault,ok.f2,ok.n1,ok.n2,ok.a1,ok.a2,by have:=hl x (List.mem_of_getElem? hx);omega⟩,hr⟩
def NilActs (w:World) (pa:Option Addr) (acts:List Hp.Act'):Prop:=∀ (b o j:Nat) (x:Hp.Act') (q:Option Addr) (c:Nat),pa=some ⟨b,o,none⟩ → acts[j]? = some x → w.cell? ⟨b,o+j * 5+2,none⟩=some (.slice q x.list.length c) → q=none → c=0
theorem NilActs.ext {w w':World} {pa:Option Addr} {ca:Nat} {acts:List Hp.Act'} (h:NilActs w pa acts) (ha:ActsW w pa ca acts) (e:Ext w w'):NilActs w' pa acts:=fun b o j x q c hp hx hc hq=>by
 obtain ⟨b',o',e',hb,_⟩:=ha.cells (by have:=(List.getElem?_eq_some_iff.1 hx).1;omega)
 rw [hp] at e'
 cases e'
 exact h b o j x q c hp hx ((e.cell hb _).symm.trans hc) hq
structure SAt (w:World) (sp:Option Addr) (sc:Nat) (op:Option Addr) (oc:Nat) (pa:Option Addr) (ca:Nat) (z o:List Int) (acts:List Hp.Act'):Prop where
 n3:NilActs w pa acts
 sizes:SliceAt w sp sc z
 order:SliceAt w op oc o
 acts:ActsW w pa ca acts
 n1:sp=none → sc=0
 n2:op=none → oc=0
theorem SAt.ext {w w':World} {sp op pa:Option Addr} {sc oc ca:Nat} {z o:List Int} {acts:List Hp.Act'} (h:SAt w sp sc op oc pa ca z o acts) (e:Ext w w'):SAt w' sp sc op oc pa ca z o acts:=
 { h with sizes:=h.sizes.ext e,order:=h.order.ext e,acts:=h.acts.ext e,n3:=h.n3.ext h.acts e }
def ActAmong (w:World) (p:Option Addr) (xs:List Value) (k:Nat) (x:Hp.Act'):Prop:=
 ∃ q c f,ActOk x f ∧ xs[k * 5]? = some (.int .u8 x.kind) ∧ xs[k * 5+1]? = some (.int .i64 x.a) ∧ xs[k * 5+2]? = some (.slice q x.list.length c) ∧ xs[k * 5+3]? = some (.int .u8 f) ∧ xs[k * 5+4]? = some (.int .i64 x.n) ∧ SliceAt w q c x.list ∧
  ∀ b o,q=some ⟨b,o,none⟩ → b < w.heap.size ∧ ∀ o',p ≠ some ⟨b,o',none⟩
structure ActsRow (w0 w:World) (p:Option Addr) (c j:Nat) (l:List Hp.Act'):Prop where
 ext0:Ext w0 w
 own:∃ xs,w.ownsRow w0.heap.size 85 5 (.slice p j c) j xs ∧ ∀ k x,k < j → l[k]? = some x → ActAmong w p xs k x
theorem ActAmong.ext {w w':World} {p:Option Addr} {xs:List Value} {k:Nat} {x:Hp.Act'} (h:ActAmong w p xs k x) (e:Ext w w'):ActAmong w' p xs k x:=by
 obtain ⟨q,c,f,h1,h2,h3,h4,h5,h6,h7,h8⟩:=h
 exact ⟨q,c,f,h1,h2,h3,h4,h5,h6,h7.ext e,fun b o e'=>⟨Nat.lt_of_lt_of_le (h8 b o e').1 e.le,(h8 b o e').2⟩⟩
theorem ActsRow.ext {w0 w w':World} {p:Option Addr} {c j:Nat} {l:List Hp.Act'} (h:ActsRow w0 w p c j l) (e:Ext w w'):ActsRow w0 w' p c j l:=by
 obtain ⟨xs,h1,h2⟩:=h.own
 refine ⟨h.ext0.trans e,xs,⟨h1.1, ?_⟩,fun k x hk hx=>(h2 k x hk hx).ext e⟩
 rcases h1.2 with e' | ⟨g,cap,cur,e',hb,hg,r⟩
 · exact .inl e'
 · refine .inr ⟨g,cap,cur,e',hb, ?_,r⟩;have:=(But.ofExt (l:=[]) e).block g (Array.getElem?_eq_some_iff.1 hg).1 (by simp);rw [this];exact hg
theorem ActsRow.at_ {w0 w:World} {p:Option Addr} {c:Nat} {l:List Hp.Act'} (h:ActsRow w0 w p c l.length l):ActsAt w p c l:=by
 obtain ⟨xs,h1,h2⟩:=h.own
 rcases h1.2 with ⟨e,hz⟩ | ⟨g,cap,cur,e,hb,hg,r1,r2,r3,r4⟩
 · injection e with e1 e2 e3
   refine ⟨by omega,by omega,fun h0=>by omega⟩
 · injection e with e1 e2 e3
   subst e1 e3;refine ⟨r1,by unfold maxLen at r2;omega,fun _=>⟨g,0,rfl,(Array.getElem?_eq_some_iff.1 hg).1,fun j x hx=>?_⟩⟩;have hj:j < l.length:=(List.getElem?_eq_some_iff.1 hx).1;obtain ⟨q,c',f,k1,k2,k3,k4,k5,k6,k7,_⟩:=h2 j x hj hx;have cl:∀ i v,xs[i]? = some v → w.cell? ⟨g,0+i,none⟩=some v:=fun i v hv=>by
    have:=h1.cells (g:=g) rfl i _ hv;rw [Addr.add_lit] at this;exact this
   refine ⟨q,c',f,k1, ?_, ?_, ?_, ?_, ?_,k7⟩
   · exact cl _ _ k2
   · exact cl _ _ k3
   · exact cl _ _ k4
   · exact cl _ _ k5
   · exact cl _ _ k6
theorem ActsRow.grow {w0 w w':World} {p q:Option Addr} {c j cq f:Nat} {l:List Hp.Act'} {x:Hp.Act'} {v':Value} {xs:List Value} (h0:Ext w0 w) (h1:w.ownsRow w0.heap.size 85 5 (.slice p j c) j xs) (h2:∀ k x,k < j → l[k]? = some x → ActAmong w p xs k x)
    (hx:l[j]? = some x) (hok:ActOk x f) (hs:SliceAt w q cq x.list) (hq:∀ b o,q=some ⟨b,o,none⟩ → b < w.heap.size ∧ ∀ o',p ≠ some ⟨b,o',none⟩)
    (hown:w'.ownsRow w0.heap.size 85 5 v' (j+1) (xs ++ [.int .u8 x.kind,.int .i64 x.a,.slice q x.list.length cq,.int .u8 f,.int .i64 x.n])) (hgr:w.grownBy w' (Value.slice p j c).ownBlock)
    (hor:∀ g cap,v' = .slice (some ⟨g,0,none⟩) (j+1) cap → p=some ⟨g,0,none⟩ ∨ g=w.heap.size) :
    ∃ p' c',v' = .slice p' (j+1) c' ∧ ActsRow w0 w' p' c' (j+1) l:=by
  have hlen:xs.length=j * 5:=h1.1
  rcases hown.2 with ⟨_,hz⟩ | ⟨g,cap,cur,rfl,hb,hg,r⟩
  · omega
  · refine ⟨some ⟨g,0,none⟩,cap,rfl, ?_,_,hown, ?_⟩
    · refine ext_grow h0 hgr fun r hr=>?_
      rcases h1.2 with ⟨e,_⟩ | ⟨g',cap',cur',e,hb',_⟩
      · rw [e] at hr;simp [Value.ownBlock] at hr
      · rw [e] at hr;simp [Value.ownBlock] at hr;omega
    · have keep:∀ (q:Option Addr) (c2:Nat) (l:List Int),(∀ b o,q=some ⟨b,o,none⟩ → b < w.heap.size ∧ ∀ o',p ≠ some ⟨b,o',none⟩) → SliceAt w q c2 l → SliceAt w' q c2 l ∧ ∀ b o,q=some ⟨b,o,none⟩ → b < w'.heap.size ∧ ∀ o',(some ⟨g,0,none⟩:Option Addr) ≠ some ⟨b,o',none⟩:=fun q c2 l hf hs=>by
        have kb:But ((Value.slice p j c).ownBlock).toList w w':=⟨hgr.os,hgr.tape,hgr.output,hgr.size,fun i hi hn=>hgr.block i hi (fun e=>hn (by rw [← e];simp))⟩
        refine ⟨hs.but kb fun b o e hm=>?_,fun b o e=>⟨Nat.lt_of_lt_of_le (hf b o e).1 hgr.size,fun o' e'=>?_⟩⟩
        · rcases h1.2 with ⟨e',_⟩ | ⟨g',cap',cur',e',hb',_⟩
          · injection e' with e1
            subst e1;simp [Value.ownBlock] at hm
          · injection e' with e1
            subst e1;have:g'=b:=by simpa [Value.ownBlock,eq_comm] using hm
            subst this;exact (hf g' o e).2 0 rfl
        · cases e'
          rcases hor _ _ rfl with hp | hg'
          · exact (hf g o e).2 0 hp
          · have:=(hf g o e).1;omega
      intro k y hk hy
      by_cases e:k=j
      · subst e;rw [hx] at hy
        cases hy
        obtain ⟨n1,n2⟩:=keep q cq x.list hq hs;have ap:∀ i,(xs ++ [Value.int .u8 x.kind,.int .i64 x.a,.slice q x.list.length cq,.int .u8 f,.int .i64 x.n])[k * 5+i]? = [Value.int .u8 x.kind,.int .i64 x.a,.slice q x.list.length cq,.int .u8 f,.int .i64 x.n][i]? := fun i=>by
         rw [List.getElem?_append_right (by omega)]
         congr 1
         omega
        exact ⟨q,cq,f,hok,ap 0,ap 1,ap 2,ap 3,ap 4,n1,n2⟩
      · obtain ⟨q',c',f',k1,k2,k3,k4,k5,k6,k7,k8⟩:=h2 k y (by omega) hy;obtain ⟨n1,n2⟩:=keep q' c' y.list k8 k7;have ap:∀ i v,xs[i]? = some v → (xs ++ [Value.int .u8 x.kind,.int .i64 x.a,.slice q x.list.length cq,.int .u8 f,.int .i64 x.n])[i]? = some v:=fun i v hv=>by
         rw [List.getElem?_append_left (List.getElem?_eq_some_iff.1 hv).1];exact hv
        exact ⟨q',c',f',k1,ap _ _ k2,ap _ _ k3,ap _ _ k4,ap _ _ k5,ap _ _ k6,n1,n2⟩
open Go.RowKit
section
variable {P:Program} {ops:Array Oper} {Q:Exit → Act → World → Prop} {md:Region.Mode} {S:World → Prop}
theorem wpAnyR_do1 {oi:Oper} {fuel:Nat} {listed:Array Bool} {a:Act} {w:World} (i:Nat) (V:Value → World → Prop) (hi:ops[i]? = some oi)
    (hr:Region.ready md ops listed=[i]) (hw:Region.wanted oi (yielded ops a.tmps)=true)
    (hrun:∀ w',Ext w w' → S w' → (∃ f args,(execOp a.eval oi).run P w' = .ok (.enter f args) w' ∧ Calls P f args w' fun e w''=>∃ v,e = .returned v ∧ V v w'') ∨ ∃ v w'',(execOp a.eval oi).run P w' = .ok (.value v) w'' ∧ V v w'')
    (hVS:∀ v w'',V v w'' → ∀ W,Ext w'' W → S W)
    (h:∀ v w'',V v w'' → wpAnyR P md ops Q (fun W=>Ext w'' W) Ext fuel (listed.setIfInBounds i true) (a.put oi.dst v) w''):wpAnyR P md ops Q S Ext (fuel+1) listed a w:=
  wpAnyR_do V Ext.refl (fun _ _ _=>Ext.trans) hi (by rw [hr];simp) (by rw [hr];simp) hw hrun hVS h
end
open Go.ChangeShapes Go.WideShapes Go.ChangeAt Go.RowKit Go.Joins
theorem own:ownKnob Tryz.prog.godebug=none:=by kernel_rfl
theorem kids:Kids Tryz.prog (· < Tryz.prog.types.size):=kids_rows (by kernel_rfl) (by kernel_rfl)
theorem full:∀ t e,t < Tryz.prog.types.size → Tryz.prog.underlying t=some (.slice e) → 0 < Tryz.prog.cellsOf e:=slices_full_of _ (by kernel_rfl)
theorem same_at {W W':World} (he:Ext W W') {p:MemPlace} (hp:p.block < W.heap.size):W.sameAt W' p:=by
 cases p with
 | cell b off=>exact he.cell hp off
 | map b=>exact he.block b hp
theorem args_again {H:Type} {enc:TypeId × Value → H} {W W':World} (he:Ext W W') {sp:Nat → Bool}:∀ {ts:List TypeId} {vs:List Value} {ds:List (DataW H)} {ps:List MemPlace},(∀ t ∈ ts,t < Tryz.prog.types.size) → DataW.TrodAll enc Tryz.prog W 0 (fun _=>true) true ts vs ds ps →
    (∀ p ∈ ps,p.block < W.heap.size) → (∀ p ∈ ps,sp p.block=true) → DataW.TrodAll enc Tryz.prog W' 0 sp true ts vs ds ps:=by
  intro ts vs ds ps hT h hlt hs;refine DataW.TrodAll.respare kids full hT ?_ hs;clear hs hT
  induction ts generalizing vs ds ps with
  | nil=>match vs,ds,h with
   | [],[],h=>exact h
  | cons t ts ih=>match vs,ds,h with
   | v :: vs,d :: ds,⟨p,q,⟨n,h1⟩,h2,e⟩=>
    subst e;exact ⟨p,q,⟨n,DataW.trod_carry n _ _ _ h1 (fun x hx=>same_at he (hlt x (List.mem_append_left _ hx)))⟩,ih h2 (fun x hx=>hlt x (List.mem_append_right _ hx)),rfl⟩
theorem post_ext {H:Type} {enc:TypeId × Value → H} {P:Program} {f:Func} {s:ChangeSpec} {W W':World} {args:Array Value} {v:Value} {ds gs:List (DataW H)} {before pa pv:List MemPlace}
    (hW:DataW.Whole enc P f.params.toList s.vars false W args.toList ds gs before)
    (hres:∀ (b:Nat) (sp:Nat → Bool) (hd:Bool),DataW.TrodAll enc P W' b sp hd f.resultTypes.toList (v.resultList f.resultTypes.size) (s.fn H (ds ++ gs)).results [])
    (hargs:∀ sp:Nat → Bool,(∀ p ∈ before,sp p.block=true) → DataW.TrodAll enc P W' 0 sp true f.params.toList args.toList (s.fn H (ds ++ gs)).args pa)
    (hvars:∀ sp:Nat → Bool,(∀ p ∈ before,sp p.block=true) → DataW.TrodVars enc P W' sp s.vars (s.fn H (ds ++ gs)).vars pv)
    (hps:before=pa ++ pv) (hb:Ext W W'):s.post enc P f false true false false W args v W':=by
  have hold:∀ p ∈ before,(fun b=>decide (b < W.heap.size)) p.block=true:=fun p hp=>by simpa using hW.lt p hp
  refine ⟨ds,gs,before,[],pa,pv,hW,hres _ _ _,hargs _ hold,hvars _ hold,World.keptBut_mono (fun p hp=>⟨hp, ?_⟩) (Below.frame hb (· ∈ before)),fun h=>by cases h⟩;rw [hps,List.mem_append] at hp;exact Or.inr hp
section
variable {H:Type} {enc:TypeId × Value → H} {w:World} {base:Nat} {held:Bool}
end
end Go.Proofs.YtdokmmhjmclmnaaGreat
