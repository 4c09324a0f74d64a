/-
  Part 21 of a proof: RegPlan HFn39 HFn40 HFn41 HFn42 HFn43 HFn44 HFn45 RH1 RH2 RH3 RH4 RH5 LH2 LH3 LH4 LH5 LH6 LH7 RH6 RH7.
-/
import Derived.BigRegion
import Derived.Deep.AppendLies
import Derived.Test.YtdokmmhjmclmnaaGreatMB04
import Derived.Test.YtdokmmhjmclmnaaGreatMB09
import Derived.Test.YtdokmmhjmclmnaaGreatMB10
import Derived.Test.YtdokmmhjmclmnaaGreatMB11
import Derived.Test.YtdokmmhjmclmnaaGreatMB12
import Derived.Test.YtdokmmhjmclmnaaGreatMB17
import Derived.Test.YtdokmmhjmclmnaaGreatMB18
import Derived.Test.YtdokmmhjmclmnaaGreatMB20
set_option linter.unusedSimpArgs false
set_option linter.unusedVariables false
set_option linter.unusedSectionVars false
set_option linter.unnecessarySimpa false
namespace Go.Proofs.YtdokmmhjmclmnaaGreat
open Go
section
variable {P:Program} {ops:Array Oper} {Q:Exit → Act → World → Prop} {md:Region.Mode} {R:World → World → Prop}
def stepOk (md:Region.Mode) (ops:Array Oper) (k:Nat) (o:Oper) (b:Bool) (l:List Oper):Bool:=
 o.after.all (fun e=>!Region.binds md e || decide (e.on < k)) &&
 (if b then l.all (fun oj=>oj.after.any fun e=>Region.binds md e && decide (k ≤ e.on)) else l.all (fun oj=>oj.after.any (fun e=>Region.binds md e && e.on == k) || o.apart ops oj))
def planL (md:Region.Mode) (ops:Array Oper):List Oper → List Bool → Nat → Bool
 | [],[],_=>true
 | o :: l,b :: r,k=>stepOk md ops k o b l && planL md ops l r (k+1)
 | _,_,_=>false
structure Upto (ops:Array Oper) (k:Nat) (listed:Array Bool):Prop where
 size:listed.size=ops.size
 at_:∀ (j:Nat) (d:Bool),j < ops.size → listed.getD j d=decide (j < k)
theorem Upto.set {k:Nat} {listed:Array Bool} (h:Upto ops k listed):Upto ops (k+1) (listed.setIfInBounds k true):=by
 refine ⟨by simp [h.size],fun j d hj=>?_⟩
 by_cases e:k=j
 · subst e;have:k < listed.size:=by rw [h.size];exact hj
   simp [this]
 · rw [getD_set_ne d e,h.at_ j d hj];have:(j < k+1)=(j < k):=by
    apply propext;omega
   simp only [this]
inductive Plan (P:Program) (ops:Array Oper) (Q:Exit → Act → World → Prop) (R:World → World → Prop):(World → Prop) → List Oper → List Bool → Act → World → Prop
 | done {S:World → Prop} {a:Act} {w:World} (h:∀ w',R w w' → S w' → Q .normal a w'):Plan P ops Q R S [] [] a w
 | take {S:World → Prop} {o:Oper} {v:Value} {l:List Oper} {r:List Bool} {a:Act} {w:World} (hy:YieldsOn P ops S R o v a) (h:Plan P ops Q R S l r (a.put o.dst v) w):Plan P ops Q R S (o :: l) (false :: r) a w
 | run {S:World → Prop} {o:Oper} {l:List Oper} {r:List Bool} {a:Act} {w:World} (V:Value → World → Prop) (hw:Region.wanted o (yielded ops a.tmps)=true)
     (hrun:∀ w',R w w' → S w' → (∃ f args,(execOp a.eval o).run P w' = .ok (.enter f args) w' ∧ Calls P f args w' fun e w''=>∃ v,e = .returned v ∧ V v w'') ∨ ∃ v w'',(execOp a.eval o).run P w' = .ok (.value v) w'' ∧ V v w'')
     (hVS:∀ v w'',V v w'' → ∀ W,R w'' W → S W) (h:∀ v w'',V v w'' → Plan P ops Q R (fun W=>R w'' W) l r (a.put o.dst v) w''):Plan P ops Q R S (o :: l) (true :: r) a w
theorem any_mem {α:Type} {p:α → Bool} {xs:Array α} (h:xs.any p=true):∃ x,x ∈ xs ∧ p x=true:=by
 obtain ⟨i,hi,h⟩:=Array.any_eq_true.1 h
 exact ⟨xs[i],by simp,h⟩
theorem stepOk_ready {k:Nat} {o:Oper} {b:Bool} {l:List Oper} {listed:Array Bool} (hk:ops[k]? = some o) (hu:Upto ops k listed) (h:stepOk md ops k o b l=true):k ∈ Region.ready md ops listed:=by
 have hks:=(Array.getElem?_eq_some_iff.1 hk).1
 simp only [stepOk,Bool.and_eq_true] at h
 refine mem_ready.2 ⟨by rw [hu.at_ k _ hks];simp,o,hk,fun e he hb=>?_⟩
 have:=Array.all_eq_true_iff_forall_mem.1 h.1 e he
 rw [hb] at this
 simp only [Bool.not_true,Bool.false_or,decide_eq_true_eq] at this
 rw [hu.at_ e.on _ (by omega)]
 simpa using this
theorem Plan.anyR (hR:∀ w,R w w) (hT:∀ a b c,R a b → R b c → R a c) (hs:Region.noSelect ops=true) (hQ:∀ c a d v w,Q (.panic c) (Act.put a d v) w → Q (.panic c) a w) {S:World → Prop} {l:List Oper} {pl:List Bool} {a:Act} {w:World} (h:Plan P ops Q R S l pl a w) :
    ∀ {k:Nat} {listed:Array Bool},(∀ j:Nat,l[j]? = ops[k+j]?) → Upto ops k listed → planL md ops l pl k=true → wpAnyR P md ops Q S R l.length listed a w:=by
  induction h with
  | done h=>
   intro k listed hl hu _;refine wpAnyR_done ?_ h _;refine List.eq_nil_iff_forall_not_mem.2 fun j hj=>?_
   obtain ⟨h1,o,h2,_⟩:=mem_ready.1 hj;have hjs:=(Array.getElem?_eq_some_iff.1 h2).1;rw [hu.at_ j _ hjs] at h1;have h1:¬ j < k:=by simpa using h1
   have:=hl (j-k);rw [show k+(j-k)=j by omega,h2] at this;simp at this
  | @take S o v l r a w hy _ ih=>
   intro k listed hl hu hb;simp only [planL,Bool.and_eq_true] at hb;have hi:ops[k]? = some o:=by simpa using (hl 0).symm
   have hl':∀ j:Nat,l[j]? = ops[k+1+j]? := fun j=>by have:=hl (j+1);rw [show k+(j+1)=k+1+j by omega] at this;simpa using this
   refine wpAnyR_first hR hT hi (Region.noSelect_spec hs) (fun c a w h=>hQ c a _ _ w h) _ listed a w (fun j oj hoj hne hun hno=>?_) (stepOk_ready hi hu hb.1) hy (ih hl' hu.set hb.2);have hjs:=(Array.getElem?_eq_some_iff.1 hoj).1;rw [hu.at_ j _ hjs] at hun;have hun:¬ j < k:=by simpa using hun
   have hm:oj ∈ l:=by
    refine List.mem_of_getElem? (i:=j-(k+1)) ?_;rw [hl',show k+1+(j-(k+1))=j by omega];exact hoj
   have h1:=hb.1;simp only [stepOk,Bool.and_eq_true,Bool.false_eq_true,if_false] at h1;have h2:=List.all_eq_true.1 h1.2 oj hm;simp only [Bool.or_eq_true] at h2
   rcases h2 with h2 | h2
   · obtain ⟨e,he,h3⟩:=any_mem h2;simp only [Bool.and_eq_true,beq_iff_eq] at h3;exact absurd h3.2 (hno e he h3.1)
   · exact h2
  | @run S o l r a w V hw hrun hVS _ ih=>
   intro k listed hl hu hb;simp only [planL,Bool.and_eq_true] at hb;have hi:ops[k]? = some o:=by simpa using (hl 0).symm
   have hl':∀ j:Nat,l[j]? = ops[k+1+j]? := fun j=>by have:=hl (j+1);rw [show k+(j+1)=k+1+j by omega] at this;simpa using this
   refine wpAnyR_do V hR hT hi (stepOk_ready hi hu hb.1) (fun j hj=>?_) hw hrun hVS (fun v w'' hv=>ih v w'' hv hl' hu.set hb.2);obtain ⟨hun,oj,hoj,hall⟩:=mem_ready.1 hj;have hjs:=(Array.getElem?_eq_some_iff.1 hoj).1;rw [hu.at_ j _ hjs] at hun;have hun:¬ j < k:=by simpa using hun
   apply Classical.byContradiction;intro hne;have hm:oj ∈ l:=by
    refine List.mem_of_getElem? (i:=j-(k+1)) ?_;rw [hl',show k+1+(j-(k+1))=j by omega];exact hoj
   have h1:=hb.1;simp only [stepOk,Bool.and_eq_true,if_true] at h1;obtain ⟨e,he,h3⟩:=any_mem (List.all_eq_true.1 h1.2 oj hm);simp only [Bool.and_eq_true,decide_eq_true_eq] at h3;have h4:=hall e he h3.1
   rcases Nat.lt_or_ge e.on ops.size with h5 | h5
   · rw [hu.at_ e.on _ h5] at h4;have h4:e.on < k:=by simpa using h4
     omega
   · have:listed.size ≤ e.on:=by rw [hu.size];exact h5
     simp [Array.getD,show ¬ e.on < listed.size by omega] at h4
theorem wp_region_plan {S:World → Prop} {id:Nat} {l:List Oper} {a:Act} {w:World} (pl:List Bool) (hm:P.follows .mixedOrders=true) (hR:∀ w,R w w) (hT:∀ a b c,R a b → R b c → R a c) (hs:Region.noSelect l.toArray=true)
    (hQ:∀ c a d v w,Q (.panic c) (Act.put a d v) w → Q (.panic c) a w) (hb:planL .any l.toArray l pl 0=true) (hS:S w.drew)
    (h:∀ ops,ops=l.toArray → Plan P ops Q R S l pl a w.drew):(Code.region id l.toArray true).wp P Q a w:=by
  refine wp_region_seq hm hR hS ?_;exact (h _ rfl).anyR hR hT hs hQ (k:=0) (fun j=>by simp) ⟨by simp,fun j d hj=>by
   have:j < l.length:=by simpa using hj
   simp [Array.getD,this]⟩ hb
end
section
variable {P:Program} {ops L:Array Oper} {Q:Exit → Act → World → Prop} {R:World → World → Prop} {S:World → Prop} {o:Oper} {v:Value} {l:List Oper} {r:List Bool} {a:Act} {w:World}
theorem tkP (hops:RowKit.Hid (ops=L)) (hy:∀ w,S w → (execOp a.eval o).run P w = .ok (.value v) w) (h:Plan P ops Q R S l r (a.put o.dst v) w) (hw:Region.wanted o (yielded L a.tmps)=true:=by rfl):Plan P ops Q R S (o :: l) (false :: r) a w:=Plan.take (Or.inl (Or.inl ⟨by rw [hops.out];exact hw,hy⟩)) h
end
open Go.RowKit Go.Maps
theorem lookFrom_small {S:Hp.Hs} {tag:Int} {l:List Int} (hs:S.words.length ≤ 1000000):∀ {n a r:Nat},S.lookFrom tag l n a=some r → r ≤ 1000000
 | n,a,r,h=>by
  rcases lookFrom_succ h with ⟨_,rfl⟩ | ⟨_,n',t,f,hn,ht,_,h1⟩
  · omega
  · rcases h1 with ⟨_,_,rfl⟩ | ⟨_,a',_,h2⟩
    · have:=rd_lt ht;omega
    · subst hn;exact lookFrom_small hs h2
 termination_by n=>n
theorem takeFrom_small {wide:Nat}:∀ {n link r:Nat} {W W':List Int},W.length ≤ 1000000 → Hp.Hs.takeFrom W wide n link=some (r,W') → r ≤ 1000000
 | n,link,r,W,W',hs,h=>by
  obtain ⟨n',a,hn,_,hq⟩:=takeFrom_succ h
  rcases hq with ⟨_,rfl,_⟩ | ⟨_,v,next,hv,_,hq⟩
  · omega
  · have hv:=rd_lt (rc_some hv).1
    rcases hq with ⟨_,rfl,_⟩ | ⟨_,_,rfl,_⟩ | ⟨_,_,hq⟩
    · omega
    · omega
    · subst hn;exact takeFrom_small hs hq
 termination_by n=>n
theorem look_small {S:Hp.Hs} {tag:Int} {l:List Int} {r:Nat} (hs:S.words.length ≤ 1000000) (h:S.look tag l=some r):r ≤ 1000000:=by
 unfold Hp.Hs.look at h
 simp only [Option.bind_eq_bind,Option.bind_eq_some_iff] at h
 obtain ⟨_,_,_,_,h⟩:=h
 exact lookFrom_small hs h
theorem add_small {S S':Hp.Hs} {tag:Int} {l:List Int} {r:Nat} (hs:S.words.length ≤ 1000000) (h:S.add tag l=some (r,S')):r ≤ 1000000:=by
 obtain ⟨a0,hL,hq⟩:=add_some h
 rcases hq with ⟨_,rfl,_⟩ | ⟨_,k,a,W,_,hT,hq⟩
 · exact look_small hs hL
 · have:=takeFrom_small hs hT
   rcases hq with ⟨rfl,rfl,_⟩ | ⟨_,rfl,_⟩ <;> omega
theorem full_small {r:Nat} {S:Hp.Hs} {a e:Int} {S':Hp.Hs} (hr:r ≤ 1000000) (h:Hp.Hs.full (r,S)=(a,e,S')):0 ≤ a ∧ a ≤ 1000000 ∧ 0 ≤ e ∧ e ≤ 8:=by
 rw [full_eq] at h
 simp only [Prod.mk.injEq] at h
 obtain ⟨rfl,rfl,_⟩:=h
 unfold err8
 split <;> omega
theorem end_small {S S':Hp.Hs} {f n r e:Int} (hs:S.words.length ≤ 1000000) (h:S.end' f n=some (r,e,S')):0 ≤ r ∧ r ≤ 1000000 ∧ 0 ≤ e ∧ e ≤ 8:=by
 unfold Hp.Hs.end' at h
 split at h
 · simp only [Option.some.injEq,Prod.mk.injEq] at h;omega
 · simp only [Option.bind_eq_bind,Option.bind_eq_some_iff,Option.pure_def,Option.some.injEq] at h;obtain ⟨⟨a,S1⟩,ha,h⟩:=h;exact full_small (add_small hs ha) h
theorem checkNode_small {S:Hp.Hs} {a:Int} {l:List Int} {e:Int} (h:S.checkNode a l=some e):0 ≤ e ∧ e ≤ 8:=by
 unfold Hp.Hs.checkNode at h
 split at h
 · cases h
   omega
 · simp only [Option.bind_eq_bind,Option.bind_eq_some_iff] at h;obtain ⟨v,_,h⟩:=h
   split at h
   · cases h
     omega
   · split at h
     · cases h
       omega
     · simp only [Option.bind_eq_some_iff] at h;obtain ⟨b,_,h⟩:=h
       split at h
       · cases h
         omega
       · cases h
         omega
theorem make_wf {S S':Hp.Hs} {a:Int} {l:List Int} {r e:Int} (hs:S.words.length ≤ 1000000) (hl:∀ x ∈ l,-9223372036854775808 ≤ x ∧ x ≤ 9223372036854775807) (h:S.make a l=some (r,e,S')) : -9223372036854775808 ≤ r ∧ r ≤ 9223372036854775807 ∧ 0 ≤ e ∧ e ≤ 8:=by
 unfold Hp.Hs.make at h
 simp only [Option.bind_eq_bind,Option.bind_eq_some_iff] at h
 obtain ⟨e0,he,h⟩:=h
 have:=checkNode_small he
 split at h
 · simp only [Option.some.injEq,Prod.mk.injEq] at h;omega
 · split at h
   · simp only [Option.bind_eq_some_iff,Option.some.injEq,Prod.mk.injEq] at h;obtain ⟨k,hk,rfl,rfl,_⟩:=h;have:=hl k (List.mem_of_head? hk);omega
   · simp only [Option.bind_eq_some_iff,Option.pure_def,Option.some.injEq] at h;obtain ⟨⟨a',S1⟩,ha,h⟩:=h;have:=full_small (add_small hs ha) h;omega
structure ActOk (x:Hp.Act') (f:Nat):Prop where
 k0:0 ≤ x.kind
 fault:x.fault=f
 f2:f < 256
 n1 : -9223372036854775808 ≤ x.n
 n2:x.n ≤ 9223372036854775807
 a1 : -9223372036854775808 ≤ x.a
 a2:x.a ≤ 9223372036854775807
 len:x.list.length ≤ 1000
structure ScOk (s:Hp.Sc) (j:Nat):Prop where
 res:s.res.length=j
 ats:s.ats.length=j
 pos:∀ a ∈ s.ats,0 ≤ a
theorem ScOk.heap {s:Hp.Sc} {j:Nat} (h:ScOk s j) (S:Hp.Hs):ScOk { s with S:=S } j:=⟨h.res,h.ats,h.pos⟩
def ActIn (w:World) (b o:Nat) (x:Hp.Act'):Prop:=∃ q c f,ActOk x f ∧ w.cell? ⟨b,o,none⟩=some (.int .u8 x.kind) ∧ w.cell? ⟨b,o+1,none⟩=some (.int .i64 x.a) ∧ w.cell? ⟨b,o+2,none⟩=some (.slice q x.list.length c) ∧ w.cell? ⟨b,o+3,none⟩=some (.int .u8 f) ∧ w.cell? ⟨b,o+4,none⟩=some (.int .i64 x.n) ∧ SliceAt w q c x.list
structure ActsAt (w:World) (p:Option Addr) (c:Nat) (l:List Hp.Act'):Prop where
 le:l.length ≤ c
 cap:c ≤ 9223372036854775807
 cells:0 < l.length → ∃ b o,p=some ⟨b,o,none⟩ ∧ b < w.heap.size ∧ ∀ j x,l[j]? = some x → ActIn w b (o+j * 5) x
theorem ActsAt.ext {w w':World} {p:Option Addr} {c:Nat} {l:List Hp.Act'} (h:ActsAt w p c l) (k:Ext w w'):ActsAt w' p c l:=by
 refine ⟨h.le,h.cap,fun h0=>?_⟩
 obtain ⟨b,o,rfl,hb,hc⟩:=h.cells h0
 refine ⟨b,o,rfl,Nat.lt_of_lt_of_le hb k.le,fun j x hx=>?_⟩
 obtain ⟨q,c',f,ok,a0,a1,a2,a3,a4,hs⟩:=hc j x hx
 exact ⟨q,c',f,ok,(k.cell hb _).trans a0,(k.cell hb _).trans a1,(k.cell hb _).trans a2,(k.cell hb _).trans a3,(k.cell hb _).trans a4,hs.ext k⟩
structure Rd where
 rb:Nat
 sp:Option Addr
 sc:Nat
 op:Option Addr
 oc:Nat
 gb:Nat
 go:Nat
 wc:Nat
structure RAt (w:World) (r:Rd) (S:Hp.Hs):Prop where
 c0:w.cell? ⟨r.rb,0,none⟩=some (.slice r.sp S.sizes.length r.sc)
 c1:w.cell? ⟨r.rb,1,none⟩=some (.slice r.op S.order.length r.oc)
 c2:w.cell? ⟨r.rb,2,none⟩=some (.slice (some ⟨r.gb,r.go,none⟩) S.words.length r.wc)
 sizes:SliceAt w r.sp r.sc S.sizes
 order:SliceAt w r.op r.oc S.order
 words:SliceAt w (some ⟨r.gb,r.go,none⟩) r.wc S.words
namespace RAt
variable {w w':World} {r:Rd} {S:Hp.Hs}
theorem ext (h:RAt w r S) (k:Ext w w'):RAt w' r S:=
 ⟨(k.cell (cell_lt h.c0) 0).trans h.c0,(k.cell (cell_lt h.c0) 1).trans h.c1,(k.cell (cell_lt h.c0) 2).trans h.c2,h.sizes.ext k,h.order.ext k,h.words.ext k⟩
theorem get (h:RAt w r S) {j:Nat} (hj:j < S.words.length):w.cell? ⟨r.gb,r.go+j,none⟩=some (.int .i64 (Hp.ow S.words j)):=by
 obtain ⟨b,o,e,_,hc⟩:=h.words.cells (by omega)
 cases e
 exact hc j _ (Hp.rd_ow hj)
theorem lt (h:RAt w r S):r.rb < w.heap.size:=cell_lt h.c0
end RAt
open Go.RowKit Go.Maps
theorem dIn (n a b:Int) (w:World):Calls Tryz.prog 66 #[.int .i64 n,.int .i64 a,.int .i64 b] w fun e w'=>e = .returned (.bool (Hp.within a b n)) ∧ Ext w w':=by
 by_cases h1:a ≤ n
 · have t1:decide (n ≥ a)=true:=decide_eq_true h1
   by_cases h2:n ≤ b
   · have t2:decide (n ≤ b)=true:=decide_eq_true h2;have e:Hp.within a b n=true:=by simp [Hp.within,h1,h2]
     rw [e];clear e;go_enter Tryz.func66,Tryz.ntmps66
     go_wp2_with fail
     go_returns;exact ⟨rfl,exx⟩
   · have t2:decide (n ≤ b)=false:=decide_eq_false h2;have e:Hp.within a b n=false:=by simp [Hp.within,h2]
     rw [e];clear e;go_enter Tryz.func66,Tryz.ntmps66
     go_wp2_with fail
     go_returns;exact ⟨rfl,exx⟩
 · have t1:decide (n ≥ a)=false:=decide_eq_false h1;have e:Hp.within a b n=false:=by simp [Hp.within,h1]
   rw [e];clear e;go_enter Tryz.func66,Tryz.ntmps66
   go_wp2_with fail
   go_returns;exact ⟨rfl,exx⟩
set_option maxHeartbeats 4000000 in
theorem dProduct {w:World} {p:Option Addr} {c:Nat} {l:List Int} (h:SliceAt w p c l) (hb:∀ s ∈ l,1 ≤ s ∧ s ≤ 12) :
    Calls Tryz.prog 119 #[.slice p l.length c,.int .i64 0] w fun e w'=>e = .returned (.int .i64 (Hp.prodM l)) ∧ Ext w w':=by
  have hle:=h.le;have hcap:=h.cap;have H:=Lib.hid h;have HB:=Lib.hid hb;clear h hb;obtain ⟨n,hL⟩:∃ n,l.length=n:=⟨_,rfl⟩
  have HL:=Lib.hid hL;rw [hL] at hle ⊢;clear hL;go_enter Tryz.func119,Tryz.ntmps119
  go_wp2_with fail
  go_loopg [5,6] n (fun g s i wr=>∃ (j:Nat) (m:Int),j ≤ n ∧ n-j ≤ g ∧ i = .int .i64 j ∧ s = .int .i64 m ∧ 0 ≤ m ∧ m ≤ 3000 ∧ Hid (m=Hp.prodM (l.take j)) ∧ Hid (Ext w wr))
  case atStart=>exact ⟨0,1,Nat.zero_le _,by omega,rfl,rfl,by omega,by omega,Lib.hid rfl,Lib.hid exx⟩
  case round=>
   obtain ⟨j,m,hj,hg,rfl,rfl,hm0,hm1,HP,E⟩:=hrel
   by_cases hlt:j < n
   · obtain ⟨x,hx⟩:=rd_get (l:=l) (j:=j) (by rw [HL.out];exact hlt);have hxb:=HB.out x (List.mem_of_getElem? hx);obtain ⟨b,o,rfl,hb,hcell⟩:=(H.out.ext E.out).cells (by rw [HL.out];omega);have gx:=hcell j x hx;have hp1:m * x ≤ 36000:=by
      have:=Int.mul_le_mul hm1 hxb.2 (by omega) (by omega);omega
     have hp0:0 ≤ m * x:=Int.mul_nonneg hm0 (by omega);have HP2:=Lib.hid (show min 3000 (m * x)=Hp.prodM (l.take (j+1)) by rw [take_snocI hx,Hp.prodM_snoc,HP.out]);clear hcell hx hxb HP;generalize he:m * x=qv at hp0 hp1 HP2;have e2:wrap64 (m * x)=qv:=by rw [he];exact IntWalk.wrap64_in _ ⟨by omega,by omega⟩
     clear he
     go_wp2_with fail
     go_roundg (n-(j+1))
     case measure=>omega
     case rel=>exact ⟨j+1,min 3000 qv,by omega,Nat.le_refl _,by go_num,rfl,by omega,by omega,HP2,E⟩
   · have:j=n:=by omega
     subst this;have hp:=HP.out;rw [← HL.out,List.take_length] at hp;subst hp
     go_wp2_with fail
     go_returns;exact ⟨rfl,E.out⟩
set_option maxHeartbeats 4000000 in
theorem dIsOrder {w:World} {p q:Option Addr} {c d n:Nat} {o:List Int} {b:Bool} (h:SliceAt w q d o) (hn:n ≤ 1000) (hb:b=true ↔ Hp.OrdOk n o) :
    Calls Tryz.prog 120 #[.slice p n c,.slice q o.length d] w fun e w'=>e = .returned (.bool b) ∧ Ext w w':=by
  have hle:=h.le;have hcap:=h.cap;have H:=Lib.hid h;have HB:=Lib.hid hb;clear h hb
  by_cases hq:o.length=n
  · rw [hq] at hle ⊢;have HL:=Lib.hid hq;clear hq;have tq:((n:Int) != (n:Int))=false:=by simp
    go_enter Tryz.func120,Tryz.ntmps120
    go_wp2_with fail
    go_loopg [5] n (fun g i wr=>∃ j:Nat,j ≤ n ∧ n-j ≤ g ∧ i = .int .i64 j ∧ Hid (Hp.OrdTo n o j) ∧ Hid (Ext w wr))
    case atStart=>exact ⟨0,Nat.zero_le _,by omega,rfl,Lib.hid (fun k x hk=>by omega),Lib.hid exx⟩
    case round=>
     obtain ⟨j,hj,hg,rfl,A,E⟩:=hrel
     by_cases hlt:j < n
     · obtain ⟨x,hx⟩:=rd_get (l:=o) (j:=j) (by rw [HL.out];exact hlt);have HX:=Lib.hid hx;obtain ⟨bb,oo,rfl,hbb,hcell⟩:=(H.out.ext E.out).cells (by rw [HL.out];omega);have gx:=hcell j x hx;have HC:=Lib.hid hcell;have tk:decide ((j:Int) < (n:Int))=true:=decide_eq_true (by omega);have sb:IntKind.i64.wrap ((n:Int)-1)=(n:Int)-1:=IntWalk.i64_in _ (by omega);clear hcell hx
       cases hw:Hp.within 0 ((n:Int)-1) x with
       | false=>
        have hbf:b=false:=by
         cases b with
         | false=>rfl
         | true=>
          have h1:=(HB.out.1 rfl).2 j x hlt HX.out;simp [Hp.within,h1.1] at hw
        subst hbf;have HI:=Lib.hid (fun W=>hw ▸ dIn x 0 ((n:Int)-1) W);clear hw
        go_wp2_with (go_at_call 66;refine (HI.out _).mono ?_;rintro e w1 ⟨rfl,hb1⟩;obtain ⟨hc1,hf1,hs1⟩:=hb1.cells)
        go_returns;exact ⟨rfl,E.out.trans hb1⟩
       | true=>
        have hwi:0 ≤ x ∧ x ≤ (n:Int)-1:=by simpa [Hp.within] using hw
        have HI:=Lib.hid (fun W=>hw ▸ dIn x 0 ((n:Int)-1) W);clear hw
        go_wp2_with (go_at_call 66;refine (HI.out _).mono ?_;rintro e w1 ⟨rfl,hb1⟩;obtain ⟨hc1,hf1,hs1⟩:=hb1.cells)
        have E1:=Lib.hid (E.out.trans hb1);have E1l:=Lib.hid hb1;have zb:=Nat.lt_of_lt_of_le hbb hb1.le
        go_loopg [6] (j+1) (fun g i wr=>∃ k:Nat,k ≤ j ∧ j+1-k ≤ g ∧ i = .int .i64 k ∧ Hid (∀ m y,m < k → Hp.rd o m=some y → y ≠ x) ∧ Hid (Ext w1 wr))
        case atStart=>exact ⟨0,Nat.zero_le _,by omega,rfl,Lib.hid (fun m y hm=>by omega),Lib.hid (Ext.refl _)⟩
        case round=>
         obtain ⟨k,hk,hg2,rfl,A2,E2⟩:=hrel
         by_cases hkj:k < j
         · obtain ⟨y,hy⟩:=rd_get (l:=o) (j:=k) (by rw [HL.out];omega);have HY:=Lib.hid hy;have gx':=(E2.out.cell zb (oo+j)).trans ((E1l.out.cell hbb _).trans gx);have gy':=(E2.out.cell zb (oo+k)).trans ((E1l.out.cell hbb _).trans (HC.out k y hy));have zr:=Nat.lt_of_lt_of_le zb E2.out.le;have tk2:decide ((k:Int) < (j:Int))=true:=decide_eq_true (by omega);have kn:k < n:=by omega
           clear hy
           by_cases hxy:y=x
           · have t0:(y == x)=true:=by simpa using hxy
             have hbf:b=false:=by
              cases b with
              | false=>rfl
              | true=>exact absurd hxy (((HB.out.1 rfl).2 j x hlt HX.out).2 k y hkj HY.out)
             subst hbf;clear hxy
             go_wp2_with fail
             have PR19:=Lib.hid (fun (ww:World) (hSw:Ext wr ww)=>And.intro ((hSw.cell zr (oo+j)).trans gx') ((hSw.cell zr (oo+k)).trans gy'));refine wp_region_seq (S:=fun W=>Ext wr W) (R:=Ext) (by kernel_rfl) Ext.refl ?_ ?_
             · exact exx
             refine' tkL 0 rfl ?h0_1 ?_
             case h0_1=>(intro w q;obtain ⟨gx'',gy''⟩:=PR19.out w q;go_simp;try with_reducible rfl)
             refine layy ?_;refine' tkL 1 rfl ?h1_2 ?_
             case h1_2=>(intro w q;obtain ⟨gx'',gy''⟩:=PR19.out w q;go_simp;try with_reducible rfl)
             refine layy ?_;refine' tkL 2 rfl ?h2_3 ?_
             case h2_3=>(intro w q;obtain ⟨gx'',gy''⟩:=PR19.out w q;go_simp;try with_reducible rfl)
             refine layy ?_;refine' tkL 3 rfl ?h3_4 ?_
             case h3_4=>(intro w q;obtain ⟨gx'',gy''⟩:=PR19.out w q;go_simp;try with_reducible rfl)
             refine layy ?_;refine' tkL 4 rfl ?h4_5 ?_
             case h4_5=>(intro w q;obtain ⟨gx'',gy''⟩:=PR19.out w q;go_simp;try with_reducible rfl)
             refine layy ?_;refine' tkL 5 rfl ?h5_6 ?_
             case h5_6=>(intro w q;obtain ⟨gx'',gy''⟩:=PR19.out w q;go_simp;try with_reducible rfl)
             refine layy ?_;refine' tkL 6 rfl ?h6_7 ?_
             case h6_7=>(intro w q;obtain ⟨gx'',gy''⟩:=PR19.out w q;go_simp;try with_reducible rfl)
             refine layy ?_;refine' tkL 7 rfl ?h7_8 ?_
             case h7_8=>(intro w q;obtain ⟨gx'',gy''⟩:=PR19.out w q;go_simp;try with_reducible rfl)
             refine layy ?_;refine' tkL 8 rfl ?h8_9 ?_
             case h8_9=>(intro w q;obtain ⟨gx'',gy''⟩:=PR19.out w q;go_simp;try with_reducible rfl)
             refine layy ?_;refine wpAnyR_done (by kernel_rfl) ?_ _;intro x1 _ Ex1
             go_wp2_with fail
             go_returns;exact ⟨rfl,(E1.out.trans E2.out).trans Ex1⟩
           · have t0:(y == x)=false:=by simpa using hxy
             have A3:=Lib.hid (show ∀ m z,m < k+1 → Hp.rd o m=some z → z ≠ x from fun m z hm hz=>by
              by_cases e:m=k
              · subst e;rw [HY.out] at hz
                cases hz
                exact hxy
              · exact A2.out m z (by omega) hz)
             clear hxy
             go_wp2_with fail
             have PR20:=Lib.hid (fun (ww:World) (hSw:Ext wr ww)=>And.intro ((hSw.cell zr (oo+j)).trans gx') ((hSw.cell zr (oo+k)).trans gy'));refine wp_region_seq (S:=fun W=>Ext wr W) (R:=Ext) (by kernel_rfl) Ext.refl ?_ ?_
             · exact exx
             refine' tkL 0 rfl ?h0_10 ?_
             case h0_10=>(intro w q;obtain ⟨gx'',gy''⟩:=PR20.out w q;go_simp;try with_reducible rfl)
             refine layy ?_;refine' tkL 1 rfl ?h1_11 ?_
             case h1_11=>(intro w q;obtain ⟨gx'',gy''⟩:=PR20.out w q;go_simp;try with_reducible rfl)
             refine layy ?_;refine' tkL 2 rfl ?h2_12 ?_
             case h2_12=>(intro w q;obtain ⟨gx'',gy''⟩:=PR20.out w q;go_simp;try with_reducible rfl)
             refine layy ?_;refine' tkL 3 rfl ?h3_13 ?_
             case h3_13=>(intro w q;obtain ⟨gx'',gy''⟩:=PR20.out w q;go_simp;try with_reducible rfl)
             refine layy ?_;refine' tkL 4 rfl ?h4_14 ?_
             case h4_14=>(intro w q;obtain ⟨gx'',gy''⟩:=PR20.out w q;go_simp;try with_reducible rfl)
             refine layy ?_;refine' tkL 5 rfl ?h5_15 ?_
             case h5_15=>(intro w q;obtain ⟨gx'',gy''⟩:=PR20.out w q;go_simp;try with_reducible rfl)
             refine layy ?_;refine' tkL 6 rfl ?h6_16 ?_
             case h6_16=>(intro w q;obtain ⟨gx'',gy''⟩:=PR20.out w q;go_simp;try with_reducible rfl)
             refine layy ?_;refine' tkL 7 rfl ?h7_17 ?_
             case h7_17=>(intro w q;obtain ⟨gx'',gy''⟩:=PR20.out w q;go_simp;try with_reducible rfl)
             refine layy ?_;refine' tkL 8 rfl ?h8_18 ?_
             case h8_18=>(intro w q;obtain ⟨gx'',gy''⟩:=PR20.out w q;go_simp;try with_reducible rfl)
             refine layy ?_;refine wpAnyR_done (by kernel_rfl) ?_ _;intro x1 _ Ex1;have E3:=Lib.hid (E2.out.trans Ex1)
             go_wp2_with fail
             go_roundg (j+1-(k+1))
             case measure=>omega
             case rel=>exact ⟨k+1,by omega,Nat.le_refl _,by go_num,A3,E3⟩
         · have tk2:decide ((k:Int) < (j:Int))=false:=decide_eq_false (by omega);have:k=j:=by omega
           subst this;have E3:=Lib.hid (E1.out.trans E2.out);have A3:=Lib.hid (show Hp.OrdTo n o (k+1) from fun m z hm hz=>by
            by_cases e:m=k
            · subst e;rw [HX.out] at hz
              cases hz
              exact ⟨hwi,A2.out⟩
            · exact A.out m z (by omega) hz)
           go_wp2_with fail
           go_roundg (n-(k+1))
           case measure=>omega
           case rel=>exact ⟨k+1,by omega,Nat.le_refl _,by go_num,A3,E3⟩
     · have:j=n:=by omega
       subst this;have tk:decide ((j:Int) < (j:Int))=false:=decide_eq_false (by omega);have hbt:b=true:=HB.out.2 ⟨HL.out,A.out⟩;subst hbt
       go_wp2_with fail
       go_returns;exact ⟨rfl,E.out⟩
  · have tq:((o.length:Int) != (n:Int))=true:=by
      have:(o.length:Int) ≠ (n:Int):=by omega
      simpa using this
    have hbf:b=false:=by
     cases b with
     | false=>rfl
     | true=>exact absurd (HB.out.1 rfl).1 hq
    subst hbf;clear hq;go_enter Tryz.func120,Tryz.ntmps120
    go_wp2_with fail
    go_returns;exact ⟨rfl,exx⟩
set_option maxRecDepth 100000 in
set_option maxHeartbeats 4000000 in
theorem dCheckFrame {w:World} {p q:Option Addr} {c d:Nat} {z o:List Int} (hs:SliceAt w p c z) (ho:SliceAt w q d o) :
    Calls Tryz.prog 57 #[.slice p z.length c,.slice q o.length d] w fun e w'=>e = .returned (.int .i64 (Hp.frameErr z o)) ∧ Ext w w':=by
  have hle:=hs.le;have hcap:=hs.cap;have H:=Lib.hid hs;have HO:=Lib.hid ho;clear hs ho
  by_cases h6:z.length > 6
  · have e:Hp.frameErr z o=5:=by unfold Hp.frameErr;rw [if_pos h6]
    have t6:decide ((z.length:Int) > 6)=true:=decide_eq_true (by omega);rw [e];clear e;go_enter Tryz.func57,Tryz.ntmps57
    go_wp2_with fail
    go_returns;exact ⟨rfl,exx⟩
  · obtain ⟨ee,hee⟩:∃ ee,Hp.frameErr z o=ee:=⟨_,rfl⟩
    rw [hee];have HE:=Lib.hid hee;clear hee;obtain ⟨n,hL⟩:∃ n,z.length=n:=⟨_,rfl⟩
    have HL:=Lib.hid hL;rw [hL] at hle h6 ⊢;clear hL;have t6:decide ((n:Int) > 6)=false:=decide_eq_false (by omega);go_enter Tryz.func57,Tryz.ntmps57
    go_wp2_with fail
    go_loopg [5] n (fun g i wr=>∃ j:Nat,j ≤ n ∧ n-j ≤ g ∧ i = .int .i64 j ∧ Hid (∀ k x,k < j → Hp.rd z k=some x → 1 ≤ x ∧ x ≤ 12) ∧ Hid (Ext w wr))
    case atStart=>exact ⟨0,Nat.zero_le _,by omega,rfl,Lib.hid (fun k x hk=>by omega),Lib.hid exx⟩
    case round=>
     obtain ⟨j,hj,hg,rfl,A,E⟩:=hrel
     by_cases hlt:j < n
     · obtain ⟨x,hx⟩:=rd_get (l:=z) (j:=j) (by rw [HL.out];exact hlt);have HX:=Lib.hid hx;obtain ⟨bb,oo,rfl,hbb,hcell⟩:=(H.out.ext E.out).cells (by rw [HL.out];omega);have gx:=hcell j x hx;have tk:decide ((j:Int) < (n:Int))=true:=decide_eq_true (by omega);clear hcell hx
       cases hw:Hp.within 1 12 x with
       | false=>
        have he:ee=3:=by
         have h1:=HE.out;unfold Hp.frameErr at h1;rw [if_neg (by have:=HL.out;omega),if_pos] at h1
         · exact h1.symm
         · apply Classical.byContradiction;intro hc;have h2:=List.all_eq_true.1 (by simpa using hc:z.all (fun n=>decide (1 ≤ n) && decide (n ≤ 12))=true) x (List.mem_of_getElem? HX.out);have h3:Hp.within 1 12 x=true:=h2;rw [hw] at h3
           cases h3
        subst he;have HI:=Lib.hid (fun W=>hw ▸ dIn x 1 12 W);clear hw
        go_wp2_with (go_at_call 66;refine (HI.out _).mono ?_;rintro e w1 ⟨rfl,hb1⟩;obtain ⟨hc1,hf1,hs1⟩:=hb1.cells)
        go_returns;exact ⟨rfl,E.out.trans hb1⟩
       | true=>
        have hwi:1 ≤ x ∧ x ≤ 12:=by simpa [Hp.within] using hw
        have HI:=Lib.hid (fun W=>hw ▸ dIn x 1 12 W);clear hw;have A3:=Lib.hid (show ∀ k y,k < j+1 → Hp.rd z k=some y → 1 ≤ y ∧ y ≤ 12 from fun m y hm hy=>by
         by_cases e:m=j
         · subst e;rw [HX.out] at hy
           cases hy
           exact hwi
         · exact A.out m y (by omega) hy)
        go_wp2_with (go_at_call 66;refine (HI.out _).mono ?_;rintro e w1 ⟨rfl,hb1⟩;obtain ⟨hc1,hf1,hs1⟩:=hb1.cells)
        have E3:=Lib.hid (E.out.trans hb1)
        go_roundg (n-(j+1))
        case measure=>omega
        case rel=>exact ⟨j+1,by omega,Nat.le_refl _,by go_num,A3,E3⟩
     · have:j=n:=by omega
       subst this;have tk:decide ((j:Int) < (j:Int))=false:=decide_eq_false (by omega);have hb:∀ s ∈ z,1 ≤ s ∧ s ≤ 12:=fun s hs=>by
        obtain ⟨k,hk,rfl⟩:=List.getElem_of_mem hs;exact A.out k _ (by have:=HL.out;omega) (List.getElem?_eq_getElem hk)
       have hall:z.all (fun n=>decide (1 ≤ n) && decide (n ≤ 12))=true:=List.all_eq_true.2 fun x hx=>by
        have:=hb x hx;simp only [Bool.and_eq_true,decide_eq_true_eq];exact this
       have he0:Hp.frameErr z o=(if z.foldl (· * ·) 1 > 2000 then 5 else if Hp.sortI o=Hp.upto z.length then 0 else 4:Int):=by
        unfold Hp.frameErr;rw [if_neg (show ¬ z.length > 6 by have:=HL.out;omega),if_neg (by rw [hall];simp)]
       rw [HE.out] at he0;have he:=he0.symm;clear he0;have PR:=Lib.hid (fun E1=>HL.out ▸ dProduct (H.out.ext (w':=wr) E1) hb);have big:=Hp.prodM_big hb;generalize Hp.prodM z=pm at PR big;clear A hall
       by_cases h2:pm > 2000
       · rw [if_pos (big.1 h2)] at he;subst he;have t2:decide (pm > 2000)=true:=decide_eq_true h2;clear big
         go_wp2_with (go_at_call 119;refine (PR.out E.out).mono ?_;rintro e w1 ⟨rfl,hb1⟩;obtain ⟨hc1,hf1,hs1⟩:=hb1.cells)
         go_returns;exact ⟨rfl,E.out.trans hb1⟩
       · rw [if_neg (fun h=>h2 (big.2 h))] at he;have t2:decide (pm > 2000)=false:=decide_eq_false h2;clear big;have OI:=Hp.ordOk_iff (o:=o) (n:=z.length);rw [HL.out] at OI he
         by_cases h3:Hp.sortI o=Hp.upto j
         · rw [if_pos h3] at he;subst he;have IO:=Lib.hid (fun (W:World) (E1:Ext w W)=>dIsOrder (p:=p) (c:=c) (n:=j) (b:=true) (HO.out.ext E1) (by omega) ⟨fun _=>OI.2 h3,fun _=>rfl⟩);clear OI h3
           go_wp2_with (first
            | (go_at_call 119;refine (PR.out E.out).mono ?_;rintro e w1 ⟨rfl,hb1⟩;obtain ⟨hc1,hf1,hs1⟩:=hb1.cells)
            | (go_at_call 120;refine (IO.out _ (E.out.trans hb1)).mono ?_;rintro e w2 ⟨rfl,hb2⟩;obtain ⟨hc2,hf2,hs2⟩:=hb2.cells))
           go_returns;exact ⟨rfl,(E.out.trans hb1).trans hb2⟩
         · rw [if_neg h3] at he;subst he;have IO:=Lib.hid (fun (W:World) (E1:Ext w W)=>dIsOrder (p:=p) (c:=c) (n:=j) (b:=false) (HO.out.ext E1) (by omega) ⟨fun h=>absurd h (by decide),fun h=>absurd (OI.1 h) h3⟩);clear OI h3
           go_wp2_with (first
            | (go_at_call 119;refine (PR.out E.out).mono ?_;rintro e w1 ⟨rfl,hb1⟩;obtain ⟨hc1,hf1,hs1⟩:=hb1.cells)
            | (go_at_call 120;refine (IO.out _ (E.out.trans hb1)).mono ?_;rintro e w2 ⟨rfl,hb2⟩;obtain ⟨hc2,hf2,hs2⟩:=hb2.cells))
           go_returns;exact ⟨rfl,(E.out.trans hb1).trans hb2⟩
theorem dMany {w:World} {p:Option Addr} {c:Nat} {l:List Int} (h:SliceAt w p c l) (hb:∀ s ∈ l,1 ≤ s ∧ s ≤ 12) :
    Calls Tryz.prog 89 #[.slice p l.length c] w fun e w'=>e = .returned (.int .i64 (Hp.prodM l)) ∧ Ext w w':=by
  have P:=Lib.hid (dProduct h hb);clear h hb;go_enter Tryz.func89,Tryz.ntmps89
  go_wp2_with (go_at_call 119;refine (P.out).mono ?_;rintro e w1 ⟨rfl,hb1⟩;obtain ⟨hc1,hf1,hs1⟩:=hb1.cells)
  go_returns;exact ⟨rfl,exx⟩
def Hp.slimB (z o:List Int):Bool:=decide (z.length ≤ 8) && (decide (o.length ≤ 8) && (decide (Hp.frameErr z o ≠ 0) || decide (Hp.prodM z ≤ 200)))
theorem dSlim {w:World} {p q:Option Addr} {c d:Nat} {z o:List Int} (hs:SliceAt w p c z) (ho:SliceAt w q d o) :
    Calls Tryz.prog 56 #[.slice p z.length c,.slice q o.length d] w fun e w'=>e = .returned (.bool (Hp.slimB z o)) ∧ Ext w w':=by
  have CF:=Lib.hid (dCheckFrame hs ho);have HM:=Lib.hid (fun (W:World) (E:Ext w W)=>dMany (hs.ext E));clear hs ho
  by_cases h1:z.length ≤ 8
  · have t1:decide ((z.length:Int) > 8)=false:=decide_eq_false (by omega)
    by_cases h2:o.length ≤ 8
    · have t2:decide ((o.length:Int) > 8)=false:=decide_eq_false (by omega);have e:Hp.slimB z o=(decide (Hp.frameErr z o ≠ 0) || decide (Hp.prodM z ≤ 200)):=by simp [Hp.slimB,h1,h2]
      rw [e];clear e
      by_cases h3:Hp.frameErr z o=0
      · have e:(decide (Hp.frameErr z o ≠ 0) || decide (Hp.prodM z ≤ 200))=decide (Hp.prodM z ≤ 200):=by simp [h3]
        have hb:=(Hp.frameErr_ok h3).1.pos;have M:=Lib.hid (fun (W:World) (E:Ext w W)=>HM.out W E hb);rw [e];have C:=Lib.hid (h3 ▸ CF.out);clear e h3 hb CF HM;go_enter Tryz.func56,Tryz.ntmps56
        go_wp2_with (first
         | (go_at_call 57;refine (C.out).mono ?_;rintro e w1 ⟨rfl,hb1⟩;obtain ⟨hc1,hf1,hs1⟩:=hb1.cells)
         | (go_at_call 89;refine (M.out _ hb1).mono ?_;rintro e w2 ⟨rfl,hb2⟩;obtain ⟨hc2,hf2,hs2⟩:=hb2.cells))
        go_returns;exact ⟨rfl,hb1.trans hb2⟩
      · have e:(decide (Hp.frameErr z o ≠ 0) || decide (Hp.prodM z ≤ 200))=true:=by simp [h3]
        have t3:(Hp.frameErr z o != 0)=true:=by simpa using h3
        rw [e];clear e h3 HM;generalize Hp.frameErr z o=fe at CF t3;go_enter Tryz.func56,Tryz.ntmps56
        go_wp2_with (go_at_call 57;refine (CF.out).mono ?_;rintro e w1 ⟨rfl,hb1⟩;obtain ⟨hc1,hf1,hs1⟩:=hb1.cells)
        go_returns;exact ⟨rfl,exx⟩
    · have t2:decide ((o.length:Int) > 8)=true:=decide_eq_true (by omega);have e:Hp.slimB z o=false:=by simp [Hp.slimB,h2]
      rw [e];clear e CF HM;go_enter Tryz.func56,Tryz.ntmps56
      go_wp2_with fail
      go_returns;exact ⟨rfl,exx⟩
  · have t1:decide ((z.length:Int) > 8)=true:=decide_eq_true (by omega);have e:Hp.slimB z o=false:=by simp [Hp.slimB,h1]
    rw [e];clear e CF HM;go_enter Tryz.func56,Tryz.ntmps56
    go_wp2_with fail
    go_returns;exact ⟨rfl,exx⟩
structure ActsW (w:World) (p:Option Addr) (c:Nat) (l:List Hp.Act'):Prop where
 le:l.length ≤ c
 cap:c ≤ 9223372036854775807
 cells:0 < l.length → ∃ b o,p=some ⟨b,o,none⟩ ∧ b < w.heap.size ∧ ∀ (j:Nat) (x:Hp.Act'),l[j]? = some x → ∃ q c f,ActOk { x with list:=[] } f ∧ w.cell? ⟨b,o+j * 5,none⟩=some (.int .u8 x.kind) ∧ w.cell? ⟨b,o+j * 5+1,none⟩=some (.int .i64 x.a) ∧ w.cell? ⟨b,o+j * 5+2,none⟩=some (.slice q x.list.length c) ∧ w.cell? ⟨b,o+j * 5+3,none⟩=some (.int .u8 f) ∧ w.cell? ⟨b,o+j * 5+4,none⟩=some (.int .i64 x.n) ∧ SliceAt w q c x.list
theorem ActsW.ext {w w':World} {p:Option Addr} {c:Nat} {l:List Hp.Act'} (h:ActsW w p c l) (k:Ext w w'):ActsW w' p c l:=by
 refine ⟨h.le,h.cap,fun h0=>?_⟩
 obtain ⟨b,o,rfl,hb,hc⟩:=h.cells h0
 refine ⟨b,o,rfl,Nat.lt_of_lt_of_le hb k.le,fun j x hx=>?_⟩
 obtain ⟨q,c',f,ok,a0,a1,a2,a3,a4,hs⟩:=hc j x hx
 exact ⟨q,c',f,ok,(k.cell hb _).trans a0,(k.cell hb _).trans a1,(k.cell hb _).trans a2,(k.cell hb _).trans a3,(k.cell hb _).trans a4,hs.ext k⟩
theorem ActsW.at_ {w:World} {p:Option Addr} {c:Nat} {l:List Hp.Act'} (h:ActsW w p c l) (hl:∀ x ∈ l,x.list.length ≤ 14):ActsAt w p c l:=by
 refine ⟨h.le,h.cap,fun h0=>?_⟩
 obtain ⟨b,o,rfl,hb,hc⟩:=h.cells h0
 refine ⟨b,o,rfl,hb,fun j x hx=>?_⟩
 obtain ⟨q,c',f,ok,hr⟩:=hc j x hx
 exact ⟨q,c',f,⟨ok.k0,ok.fault,ok.f2,ok.n1,ok.n2,ok.a1,ok.a2,by have:=hl x (List.mem_of_getElem? hx);omega⟩,hr⟩
def NilActs (w:World) (pa:Option Addr) (acts:List Hp.Act'):Prop:=∀ (b o j:Nat) (x:Hp.Act') (q:Option Addr) (c:Nat),pa=some ⟨b,o,none⟩ → acts[j]? = some x → w.cell? ⟨b,o+j * 5+2,none⟩=some (.slice q x.list.length c) → q=none → c=0
theorem NilActs.ext {w w':World} {pa:Option Addr} {ca:Nat} {acts:List Hp.Act'} (h:NilActs w pa acts) (ha:ActsW w pa ca acts) (e:Ext w w'):NilActs w' pa acts:=fun b o j x q c hp hx hc hq=>by
 obtain ⟨b',o',e',hb,_⟩:=ha.cells (by have:=(List.getElem?_eq_some_iff.1 hx).1;omega)
 rw [hp] at e'
 cases e'
 exact h b o j x q c hp hx ((e.cell hb _).symm.trans hc) hq
structure SAt (w:World) (sp:Option Addr) (sc:Nat) (op:Option Addr) (oc:Nat) (pa:Option Addr) (ca:Nat) (z o:List Int) (acts:List Hp.Act'):Prop where
 n3:NilActs w pa acts
 sizes:SliceAt w sp sc z
 order:SliceAt w op oc o
 acts:ActsW w pa ca acts
 n1:sp=none → sc=0
 n2:op=none → oc=0
theorem SAt.ext {w w':World} {sp op pa:Option Addr} {sc oc ca:Nat} {z o:List Int} {acts:List Hp.Act'} (h:SAt w sp sc op oc pa ca z o acts) (e:Ext w w'):SAt w' sp sc op oc pa ca z o acts:=
 { h with sizes:=h.sizes.ext e,order:=h.order.ext e,acts:=h.acts.ext e,n3:=h.n3.ext h.acts e }
def ActAmong (w:World) (p:Option Addr) (xs:List Value) (k:Nat) (x:Hp.Act'):Prop:=
 ∃ q c f,ActOk x f ∧ xs[k * 5]? = some (.int .u8 x.kind) ∧ xs[k * 5+1]? = some (.int .i64 x.a) ∧ xs[k * 5+2]? = some (.slice q x.list.length c) ∧ xs[k * 5+3]? = some (.int .u8 f) ∧ xs[k * 5+4]? = some (.int .i64 x.n) ∧ SliceAt w q c x.list ∧
  ∀ b o,q=some ⟨b,o,none⟩ → b < w.heap.size ∧ ∀ o',p ≠ some ⟨b,o',none⟩
structure ActsRow (w0 w:World) (p:Option Addr) (c j:Nat) (l:List Hp.Act'):Prop where
 ext0:Ext w0 w
 own:∃ xs,w.ownsRow w0.heap.size 85 5 (.slice p j c) j xs ∧ ∀ k x,k < j → l[k]? = some x → ActAmong w p xs k x
theorem ActAmong.ext {w w':World} {p:Option Addr} {xs:List Value} {k:Nat} {x:Hp.Act'} (h:ActAmong w p xs k x) (e:Ext w w'):ActAmong w' p xs k x:=by
 obtain ⟨q,c,f,h1,h2,h3,h4,h5,h6,h7,h8⟩:=h
 exact ⟨q,c,f,h1,h2,h3,h4,h5,h6,h7.ext e,fun b o e'=>⟨Nat.lt_of_lt_of_le (h8 b o e').1 e.le,(h8 b o e').2⟩⟩
theorem ActsRow.ext {w0 w w':World} {p:Option Addr} {c j:Nat} {l:List Hp.Act'} (h:ActsRow w0 w p c j l) (e:Ext w w'):ActsRow w0 w' p c j l:=by
 obtain ⟨xs,h1,h2⟩:=h.own
 refine ⟨h.ext0.trans e,xs,⟨h1.1, ?_⟩,fun k x hk hx=>(h2 k x hk hx).ext e⟩
 rcases h1.2 with e' | ⟨g,cap,cur,e',hb,hg,r⟩
 · exact .inl e'
 · refine .inr ⟨g,cap,cur,e',hb, ?_,r⟩;have:=(But.ofExt (l:=[]) e).block g (Array.getElem?_eq_some_iff.1 hg).1 (by simp);rw [this];exact hg
theorem ActsRow.at_ {w0 w:World} {p:Option Addr} {c:Nat} {l:List Hp.Act'} (h:ActsRow w0 w p c l.length l):ActsAt w p c l:=by
 obtain ⟨xs,h1,h2⟩:=h.own
 rcases h1.2 with ⟨e,hz⟩ | ⟨g,cap,cur,e,hb,hg,r1,r2,r3,r4⟩
 · injection e with e1 e2 e3
   refine ⟨by omega,by omega,fun h0=>by omega⟩
 · injection e with e1 e2 e3
   subst e1 e3;refine ⟨r1,by unfold maxLen at r2;omega,fun _=>⟨g,0,rfl,(Array.getElem?_eq_some_iff.1 hg).1,fun j x hx=>?_⟩⟩;have hj:j < l.length:=(List.getElem?_eq_some_iff.1 hx).1;obtain ⟨q,c',f,k1,k2,k3,k4,k5,k6,k7,_⟩:=h2 j x hj hx;have cl:∀ i v,xs[i]? = some v → w.cell? ⟨g,0+i,none⟩=some v:=fun i v hv=>by
    have:=h1.cells (g:=g) rfl i _ hv;rw [Addr.add_lit] at this;exact this
   refine ⟨q,c',f,k1, ?_, ?_, ?_, ?_, ?_,k7⟩
   · exact cl _ _ k2
   · exact cl _ _ k3
   · exact cl _ _ k4
   · exact cl _ _ k5
   · exact cl _ _ k6
theorem ActsRow.grow {w0 w w':World} {p q:Option Addr} {c j cq f:Nat} {l:List Hp.Act'} {x:Hp.Act'} {v':Value} {xs:List Value} (h0:Ext w0 w) (h1:w.ownsRow w0.heap.size 85 5 (.slice p j c) j xs) (h2:∀ k x,k < j → l[k]? = some x → ActAmong w p xs k x)
    (hx:l[j]? = some x) (hok:ActOk x f) (hs:SliceAt w q cq x.list) (hq:∀ b o,q=some ⟨b,o,none⟩ → b < w.heap.size ∧ ∀ o',p ≠ some ⟨b,o',none⟩)
    (hown:w'.ownsRow w0.heap.size 85 5 v' (j+1) (xs ++ [.int .u8 x.kind,.int .i64 x.a,.slice q x.list.length cq,.int .u8 f,.int .i64 x.n])) (hgr:w.grownBy w' (Value.slice p j c).ownBlock)
    (hor:∀ g cap,v' = .slice (some ⟨g,0,none⟩) (j+1) cap → p=some ⟨g,0,none⟩ ∨ g=w.heap.size) :
    ∃ p' c',v' = .slice p' (j+1) c' ∧ ActsRow w0 w' p' c' (j+1) l:=by
  have hlen:xs.length=j * 5:=h1.1
  rcases hown.2 with ⟨_,hz⟩ | ⟨g,cap,cur,rfl,hb,hg,r⟩
  · omega
  · refine ⟨some ⟨g,0,none⟩,cap,rfl, ?_,_,hown, ?_⟩
    · refine ext_grow h0 hgr fun r hr=>?_
      rcases h1.2 with ⟨e,_⟩ | ⟨g',cap',cur',e,hb',_⟩
      · rw [e] at hr;simp [Value.ownBlock] at hr
      · rw [e] at hr;simp [Value.ownBlock] at hr;omega
    · have keep:∀ (q:Option Addr) (c2:Nat) (l:List Int),(∀ b o,q=some ⟨b,o,none⟩ → b < w.heap.size ∧ ∀ o',p ≠ some ⟨b,o',none⟩) → SliceAt w q c2 l → SliceAt w' q c2 l ∧ ∀ b o,q=some ⟨b,o,none⟩ → b < w'.heap.size ∧ ∀ o',(some ⟨g,0,none⟩:Option Addr) ≠ some ⟨b,o',none⟩:=fun q c2 l hf hs=>by
        have kb:But ((Value.slice p j c).ownBlock).toList w w':=⟨hgr.os,hgr.tape,hgr.output,hgr.size,fun i hi hn=>hgr.block i hi (fun e=>hn (by rw [← e];simp))⟩
        refine ⟨hs.but kb fun b o e hm=>?_,fun b o e=>⟨Nat.lt_of_lt_of_le (hf b o e).1 hgr.size,fun o' e'=>?_⟩⟩
        · rcases h1.2 with ⟨e',_⟩ | ⟨g',cap',cur',e',hb',_⟩
          · injection e' with e1
            subst e1;simp [Value.ownBlock] at hm
          · injection e' with e1
            subst e1;have:g'=b:=by simpa [Value.ownBlock,eq_comm] using hm
            subst this;exact (hf g' o e).2 0 rfl
        · cases e'
          rcases hor _ _ rfl with hp | hg'
          · exact (hf g o e).2 0 hp
          · have:=(hf g o e).1;omega
      intro k y hk hy
      by_cases e:k=j
      · subst e;rw [hx] at hy
        cases hy
        obtain ⟨n1,n2⟩:=keep q cq x.list hq hs;have ap:∀ i,(xs ++ [Value.int .u8 x.kind,.int .i64 x.a,.slice q x.list.length cq,.int .u8 f,.int .i64 x.n])[k * 5+i]? = [Value.int .u8 x.kind,.int .i64 x.a,.slice q x.list.length cq,.int .u8 f,.int .i64 x.n][i]? := fun i=>by
         rw [List.getElem?_append_right (by omega)]
         congr 1
         omega
        exact ⟨q,cq,f,hok,ap 0,ap 1,ap 2,ap 3,ap 4,n1,n2⟩
      · obtain ⟨q',c',f',k1,k2,k3,k4,k5,k6,k7,k8⟩:=h2 k y (by omega) hy;obtain ⟨n1,n2⟩:=keep q' c' y.list k8 k7;have ap:∀ i v,xs[i]? = some v → (xs ++ [Value.int .u8 x.kind,.int .i64 x.a,.slice q x.list.length cq,.int .u8 f,.int .i64 x.n])[i]? = some v:=fun i v hv=>by
         rw [List.getElem?_append_left (List.getElem?_eq_some_iff.1 hv).1];exact hv
        exact ⟨q',c',f',k1,ap _ _ k2,ap _ _ k3,ap _ _ k4,ap _ _ k5,ap _ _ k6,n1,n2⟩
theorem alike_true {l:List Int} (h:∀ k,k < l.length → Hp.rd l k=Hp.rd l 0):Hp.Hs.alike l=true:=by
 unfold Hp.Hs.alike
 rw [List.all_eq_true]
 intro x hx
 obtain ⟨k,hk,rfl⟩:=List.getElem_of_mem hx
 have h1:=h k hk
 unfold Hp.rd at h1
 rw [List.getElem?_eq_getElem hk,List.getElem?_eq_getElem (by omega)] at h1
 cases l with
 | nil=>simp at hk
 | cons y r=>
  have:=Option.some.inj h1;simp only [List.getElem_cons_zero] at this;simp [this]
theorem alike_false {l:List Int} {k:Nat} {x y:Int} (h:Hp.rd l k=some x) (h0:Hp.rd l 0=some y) (hne:x ≠ y):Hp.Hs.alike l=false:=by
 cases ha:Hp.Hs.alike l with
 | false=>rfl
 | true=>
  unfold Hp.Hs.alike at ha;rw [List.all_eq_true] at ha;have h1:=ha x (List.mem_of_getElem? h)
  cases l with
  | nil=>simp [Hp.rd] at h0
  | cons z r=>
   have e:z=y:=by simpa [Hp.rd] using h0
   subst e;have:x=z:=by simpa using h1
   exact absurd this hne
set_option maxHeartbeats 2000000 in
theorem dFlat {w:World} {p:Option Addr} {c:Nat} {l:List Int} {v:Int} {b:Bool} (h:SliceAt w p c l) (hb:Hp.Hs.alike l=b) :
    Calls Tryz.prog 136 #[.agg #[.int .i64 v,.slice p l.length c]] w fun e w'=>e = .returned (.bool b) ∧ Ext w w':=by
  have hle:=h.le;have hcap:=h.cap;have H:=Lib.hid h;have HB:=Lib.hid hb;clear h hb;generalize hL:l.length=n at hle ⊢;have HL:=Lib.hid hL;clear hL;go_enter Tryz.func136,Tryz.ntmps136
  go_wp2_with fail
  have E0:Ext w (w.alloc (.cells #[.int .i64 v,.slice p n c] 41)):=exx;have c1:(w.alloc (.cells #[.int .i64 v,.slice p n c] 41)).cell? ⟨w.heap.size,1,none⟩=some (.slice p n c):=by simp [go_sem]
  have z1:w.heap.size < (w.alloc (.cells #[.int .i64 v,.slice p n c] 41)).heap.size:=by simp
  generalize hB:w.heap.size=bx at c1 z1 ⊢;generalize w.alloc (.cells #[.int .i64 v,.slice p n c] 41)=w0 at *;have E0H:=Lib.hid E0;clear E0 hB
  go_loopg [3] (n+1) (fun g i wr=>∃ j:Nat,1 ≤ j ∧ j ≤ n+1 ∧ n+1-j ≤ g ∧ i = .int .i64 j ∧ Hid (Ext w0 wr) ∧ Hid (∀ k,k < j → k < n → Hp.rd l k=Hp.rd l 0))
  case atStart=>exact ⟨1,by omega,by omega,by omega,rfl,Lib.hid (Ext.refl _),Lib.hid (fun k hk _=>by rw [show k=0 by omega])⟩
  case round=>
   obtain ⟨j,hj1,hj,hg,rfl,E,A⟩:=hrel;have c1':=(E.out.cell z1 1).trans c1;have zr:=Nat.lt_of_lt_of_le z1 E.out.le
   by_cases hlt:j < n
   · obtain ⟨x,hx⟩:=rd_get (l:=l) (j:=j) (by rw [HL.out];exact hlt);obtain ⟨y,hy⟩:=rd_get (l:=l) (j:=0) (by rw [HL.out];omega);have EX:=E0H.out.trans E.out;obtain ⟨bb,o,hp,hbb,hc⟩:=(H.out.ext EX).cells (by rw [HL.out];omega);have gx:=hc j x hx;have gy:=hc 0 y hy;rw [Nat.add_zero] at gy;have HX:=Lib.hid hx;have HY:=Lib.hid hy;have tk:decide ((j:Int) < (n:Int))=true:=decide_eq_true (by omega);have n0:0 < n:=by omega
     clear hc hx hy;subst hp
     by_cases hxy:x=y
     · have t0:(x != y)=false:=by simpa using hxy
       have A2:Hid (∀ k,k < j+1 → k < n → Hp.rd l k=Hp.rd l 0):=Lib.hid (fun k hk hkn=>by
        by_cases e:k=j
        · subst e;rw [HX.out,HY.out,hxy]
        · exact A.out k (by omega) hkn)
       clear hxy
       go_wp2_with fail
       have PR21:=Lib.hid (fun (ww:World) (hSw:Ext wr ww)=>And.intro ((hSw.cell zr 1).trans c1') (And.intro ((hSw.cell hbb (o+j)).trans gx) ((hSw.cell hbb o).trans gy)));refine wp_region_seq (S:=fun W=>Ext wr W) (R:=Ext) (by kernel_rfl) Ext.refl ?_ ?_
       · exact exx
       refine' tkL 0 rfl ?h0_1 ?_
       case h0_1=>(intro w q;obtain ⟨c1'',gx',gy'⟩:=PR21.out w q;go_simp;try with_reducible rfl)
       refine layy ?_;refine' tkL 1 rfl ?h1_2 ?_
       case h1_2=>(intro w q;obtain ⟨c1'',gx',gy'⟩:=PR21.out w q;go_simp;try with_reducible rfl)
       refine layy ?_;refine' tkL 2 rfl ?h2_3 ?_
       case h2_3=>(intro w q;obtain ⟨c1'',gx',gy'⟩:=PR21.out w q;go_simp;try with_reducible rfl)
       refine layy ?_;refine' tkL 3 rfl ?h3_4 ?_
       case h3_4=>(intro w q;obtain ⟨c1'',gx',gy'⟩:=PR21.out w q;go_simp;try with_reducible rfl)
       refine layy ?_;refine' tkL 4 rfl ?h4_5 ?_
       case h4_5=>(intro w q;obtain ⟨c1'',gx',gy'⟩:=PR21.out w q;go_simp;try with_reducible rfl)
       refine layy ?_;refine' tkL 5 rfl ?h5_6 ?_
       case h5_6=>(intro w q;obtain ⟨c1'',gx',gy'⟩:=PR21.out w q;go_simp;try with_reducible rfl)
       refine layy ?_;refine' tkL 6 rfl ?h6_7 ?_
       case h6_7=>(intro w q;obtain ⟨c1'',gx',gy'⟩:=PR21.out w q;go_simp;try with_reducible rfl)
       refine layy ?_;refine' tkL 7 rfl ?h7_8 ?_
       case h7_8=>(intro w q;obtain ⟨c1'',gx',gy'⟩:=PR21.out w q;go_simp;try with_reducible rfl)
       refine layy ?_;refine' tkL 8 rfl ?h8_9 ?_
       case h8_9=>(intro w q;obtain ⟨c1'',gx',gy'⟩:=PR21.out w q;go_simp;try with_reducible rfl)
       refine layy ?_;refine' tkL 9 rfl ?h9_10 ?_
       case h9_10=>(intro w q;obtain ⟨c1'',gx',gy'⟩:=PR21.out w q;go_simp;try with_reducible rfl)
       refine layy ?_;refine wpAnyR_done (by kernel_rfl) ?_ _;intro x1 _ Ex1;have E2:=Lib.hid (E.out.trans Ex1)
       go_wp2_with fail
       go_roundg (n+1-(j+1))
       case measure=>omega
       case rel=>exact ⟨j+1,by omega,by omega,Nat.le_refl _,by go_num,E2,A2⟩
     · have t0:(x != y)=true:=by simpa using hxy
       have hbf:b=false:=by rw [← HB.out];exact alike_false HX.out HY.out hxy
       subst hbf;clear hxy
       go_wp2_with fail
       have PR22:=Lib.hid (fun (ww:World) (hSw:Ext wr ww)=>And.intro ((hSw.cell zr 1).trans c1') (And.intro ((hSw.cell hbb (o+j)).trans gx) ((hSw.cell hbb o).trans gy)));refine wp_region_seq (S:=fun W=>Ext wr W) (R:=Ext) (by kernel_rfl) Ext.refl ?_ ?_
       · exact exx
       refine' tkL 0 rfl ?h0_11 ?_
       case h0_11=>(intro w q;obtain ⟨c1'',gx',gy'⟩:=PR22.out w q;go_simp;try with_reducible rfl)
       refine layy ?_;refine' tkL 1 rfl ?h1_12 ?_
       case h1_12=>(intro w q;obtain ⟨c1'',gx',gy'⟩:=PR22.out w q;go_simp;try with_reducible rfl)
       refine layy ?_;refine' tkL 2 rfl ?h2_13 ?_
       case h2_13=>(intro w q;obtain ⟨c1'',gx',gy'⟩:=PR22.out w q;go_simp;try with_reducible rfl)
       refine layy ?_;refine' tkL 3 rfl ?h3_14 ?_
       case h3_14=>(intro w q;obtain ⟨c1'',gx',gy'⟩:=PR22.out w q;go_simp;try with_reducible rfl)
       refine layy ?_;refine' tkL 4 rfl ?h4_15 ?_
       case h4_15=>(intro w q;obtain ⟨c1'',gx',gy'⟩:=PR22.out w q;go_simp;try with_reducible rfl)
       refine layy ?_;refine' tkL 5 rfl ?h5_16 ?_
       case h5_16=>(intro w q;obtain ⟨c1'',gx',gy'⟩:=PR22.out w q;go_simp;try with_reducible rfl)
       refine layy ?_;refine' tkL 6 rfl ?h6_17 ?_
       case h6_17=>(intro w q;obtain ⟨c1'',gx',gy'⟩:=PR22.out w q;go_simp;try with_reducible rfl)
       refine layy ?_;refine' tkL 7 rfl ?h7_18 ?_
       case h7_18=>(intro w q;obtain ⟨c1'',gx',gy'⟩:=PR22.out w q;go_simp;try with_reducible rfl)
       refine layy ?_;refine' tkL 8 rfl ?h8_19 ?_
       case h8_19=>(intro w q;obtain ⟨c1'',gx',gy'⟩:=PR22.out w q;go_simp;try with_reducible rfl)
       refine layy ?_;refine' tkL 9 rfl ?h9_20 ?_
       case h9_20=>(intro w q;obtain ⟨c1'',gx',gy'⟩:=PR22.out w q;go_simp;try with_reducible rfl)
       refine layy ?_;refine wpAnyR_done (by kernel_rfl) ?_ _;intro x1 _ Ex1
       go_wp2_with fail
       go_returns;exact ⟨rfl,EX.trans Ex1⟩
   · have tk:decide ((j:Int) < (n:Int))=false:=decide_eq_false (by omega);have hbt:b=true:=by
      rw [← HB.out];exact alike_true fun k hk=>A.out k (by have:=HL.out;omega) (by have:=HL.out;omega)
     subst hbt
     go_wp2_with fail
     go_returns;exact ⟨rfl,E0H.out.trans E.out⟩
end Go.Proofs.YtdokmmhjmclmnaaGreat
