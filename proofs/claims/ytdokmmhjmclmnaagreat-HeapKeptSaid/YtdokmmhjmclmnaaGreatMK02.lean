/-
  Part 2 of a proof: RegTail HFn4 HFn5 HFn6 HFn7 HFn8 HFn9 HFn10 HFn11 HFn12 HRange.
-/
import Derived.OwnWalkIn
import Derived.RangeFuncBound
import Derived.RangeFuncCalls
import Derived.RangeFuncLeaves
import Derived.RangeFuncNested
import Derived.Shelf.RegionOpen
import Derived.StillTail
import Derived.StillTailTactics
import Derived.TacticsInMore
import Derived.Test.YtdokmmhjmclmnaaGreatMK01
set_option linter.unusedSimpArgs false
set_option linter.unusedVariables false
set_option linter.unusedSectionVars false
set_option linter.unnecessarySimpa false
namespace Go.Proofs.YtdokmmhjmclmnaaGreat
variable {W' w w' w0:World} {B a b base c ca cap f g i j k k1 k2 m n oc sb sc:Nat} {choice e t x:Int} {W fs l o z:List Int} {A T:List Nat} {op p p1 p2 pa pe pn q sp:Option Addr} {d:Hd} {S S':Hp.Hs} {M:List (Nat × Int)}
open Go
section
variable {P:Program} {ops:Array Oper} {Q:Exit->Act->World->Prop} {md:Region.Mode} {S:World->Prop} {R:World->World->Prop}
def sinkFrom (md:Region.Mode) (ops:Array Oper) (n:Nat) (listed:Array Bool):Bool:=
 (List.range n).all fun i=>listed.getD i false || (List.range (n+1)).any fun j=>decide (i < j) && Region.waitsFor md ops j i
def headInvB (md:Region.Mode) (ops:Array Oper) (n:Nat) (listed:Array Bool):Bool:=
 decide (listed.size=ops.size) &&
 ((List.range ops.size).all fun j=>!(listed.getD j false) || (match ops[j]? with | some o=>o.after.all (fun e=>!(Region.binds md e) || listed.getD e.on false) | none=>true)) &&
 ((List.range ops.size).all fun t=>decide (t < n) || !(listed.getD t true))
theorem headInvB_spec {listed:Array Bool} (h:headInvB md ops n listed=true):HeadInv md ops n listed:=by
 simp only [headInvB,Bool.and_eq_true,decide_eq_true_eq] at h
 obtain ⟨⟨h1,h2⟩,h3⟩:=h
 refine ⟨h1,fun j oj hj hl e he hb=>?_,fun t ht htl=>?_⟩
 . have hjl:j < ops.size:=(Array.getElem?_eq_some_iff.1 hj).1;have:=List.all_eq_true.1 h2 j (List.mem_range.2 hjl);rw [hl,hj] at this;simp only [Bool.not_true,Bool.false_or] at this;have:=Array.all_eq_true_iff_forall_mem.1 this e he;rw [hb] at this
   simpa using this
 have:=List.all_eq_true.1 h3 t (List.mem_range.2 htl)
 simp only [Bool.or_eq_true,decide_eq_true_eq] at this
 rcases this with h | h
 . omega
 simpa using h
def Sunk (md:Region.Mode) (ops:Array Oper) (n:Nat) (listed:Array Bool):Prop:=
 ∀ i,i < n->listed.getD i true=false -> ∃ j,j<=n/\i < j/\Region.waitsFor md ops j i=true
theorem sinkFrom_spec {listed:Array Bool} (h:sinkFrom md ops n listed=true):Sunk md ops n listed:=by
 intro i hi hun
 have:=List.all_eq_true.1 h i (List.mem_range.2 hi)
 rw [getD_both hun] at this
 simp only [Bool.false_or] at this
 obtain ⟨j,hj,h2⟩:=List.any_eq_true.1 this
 simp only [Bool.and_eq_true,decide_eq_true_eq] at h2
 exact ⟨j,by have:=List.mem_range.1 hj;omega,h2.1,h2.2⟩
theorem Sunk.set {listed:Array Bool} (h:Sunk md ops n listed):Sunk md ops n (listed.setIfInBounds i true):=by
 intro k hk hun
 by_cases e:i=k
 . subst e
   rcases Nat.lt_or_ge i listed.size with h' | h'
   . simp [h'] at hun
   refine h i hk ?_;simp [Array.getElem?_eq_none h'] at hun
 rw [getD_set_ne true e] at hun
 exact h k hk hun
theorem tail_bars {listed:Array Bool} (hs:Sunk md ops n listed) (hc:Region.chainB md ops n=true) (inv:HeadInv md ops n listed) :
    ∀ (d i:Nat),n-i=d->i < n->listed.getD i true=false -> ∀ t,n<=t->t ∉ Region.ready md ops listed:=by
  intro d
  induction d using Nat.strongRecOn with
  | _ d ih=>
   intro i hd hi hun t ht hr;obtain ⟨_,ot,hot,hall⟩:=mem_ready.1 hr;have htlt:t < ops.size:=(Array.getElem?_eq_some_iff.1 hot).1
   by_cases htn:t=n
   . subst htn;obtain ⟨j,hjle,hij,hw⟩:=hs i hi hun;obtain ⟨oj,hoj,e,he,hb,hon⟩:=Region.waitsFor_spec hw
     by_cases hjt:j=t
     . subst hjt;have:oj=ot:=Option.some.inj (hoj.symm.trans hot);subst this;have h2:=hall e he hb;rw [hon,getD_both hun] at h2
       cases h2
     cases hl:listed.getD j false with
     | true=>
      have h2:=inv.closed j oj hoj hl e he hb;rw [hon,getD_both hun] at h2
      cases h2
     | false=>
      have hjs:j < listed.size:=by rw [inv.size];omega
      exact ih (t-j) (by omega) j rfl (by omega) (getD_in hjs hl) t (Nat.le_refl _) hr
   have h1:=List.all_eq_true.1 hc t (List.mem_range.2 htlt);simp only [Bool.or_eq_true,decide_eq_true_eq] at h1
   rcases h1 with h1 | h1
   . omega
   obtain ⟨o',ho',e,he,hb,hon⟩:=Region.waitsFor_spec h1;have:o'=ot:=Option.some.inj (ho'.symm.trans hot);subst this;have h2:=hall e he hb;rw [hon,getD_both (inv.tail (t-1) (by omega) (by omega))] at h2
   cases h2
def wpAnyX (P:Program) (md:Region.Mode) (ops:Array Oper) (Q:Exit->Act->World->Prop) (S:World->Prop) (R:World->World->Prop) (n G:Nat):Nat->Array Bool->Act->World->Prop
 | 0,listed,a,w=>(∀ j ∈ Region.ready md ops listed,n<=j) /\ ∀ w',R w w'->S w'->wpAny P md ops Q G listed a w'
 | f+1,listed,a,w=>∀ w',R w w'->S w'->Region.ready md ops listed ≠ [] /\
     ∀ i ∈ Region.ready md ops listed,i < n/\wpOp P ops Q i (fun a' w''=>S w''/\wpAnyX P md ops Q S R n G f (listed.setIfInBounds i true) a' w'') a w'
variable {n G:Nat}
theorem wpAnyX.mono (hT:∀ a b c,R a b->R b c->R a c):∀ {f:Nat} {listed:Array Bool} {a:Act} {w w1:World},R w w1->wpAnyX P md ops Q S R n G f listed a w->wpAnyX P md ops Q S R n G f listed a w1
 | 0,_,_,_,_,hr,h=>⟨h.1,fun w' r s=>h.2 w' (hT _ _ _ hr r) s⟩
 | _+1,_,_,_,_,hr,h=>fun w' r s=>h w' (hT _ _ _ hr r) s
theorem wpAny_of_X (hR:∀ w,R w w):∀ (f:Nat) (listed:Array Bool) (a:Act) (w:World),S w->wpAnyX P md ops Q S R n G f listed a w->wpAny P md ops Q (f+G) listed a w
 | 0,_,_,w,hS,h=>by rw [Nat.zero_add];exact h.2 w (hR w) hS
 | f+1,_,_,w,hS,h=>by
  rw [show f+1+G=(f+G)+1 by omega];exact ⟨fun h0=>absurd h0 (h w (hR w) hS).1,fun i hi=>wpOp_mono (fun a' w' h'=>wpAny_of_X hR f _ a' w' h'.1 h'.2) ((h w (hR w) hS).2 i hi).2⟩
theorem wpAnyX_first {oi:Oper} {v:Value} (hR:∀ w,R w w) (hT:∀ a b c,R a b->R b c->R a c) (hi:ops[i]? = some oi) (hsel:∀ (j:Nat) (o:Oper) cs b,ops[j]? = some o->o.op ≠ .select cs b)
    (hQ:∀ c a w,Q (.panic c) (a.put oi.dst v) w->Q (.panic c) a w) (hc:Region.chainB md ops n=true) (hin:i < n) :
    ∀ (f:Nat) (listed:Array Bool) (a:Act) (w:World),HeadInv md ops n listed->Sunk md ops n listed ->
     (∀ j oj,ops[j]? = some oj->j ≠ i->listed.getD j true=false->(∀ e ∈ oj.after,Region.binds md e=true->e.on ≠ i)->oi.apart ops oj=true) ->
     i ∈ Region.ready md ops listed->YieldsOn P ops S R oi v a ->
     wpAnyX P md ops Q S R n G f (listed.setIfInBounds i true) (a.put oi.dst v) w->wpAnyX P md ops Q S R n G (f+1) listed a w:=by
  intro f
  induction f with
  | zero=>
   intro listed a w inv hs _ hr hy H w' r s;have hun:=(mem_ready.1 hr).1;refine ⟨fun h=>(by rw [h] at hr;cases hr),fun j hj=>?_⟩
   have hjn:j < n:=by
    rcases Nat.lt_or_ge j n with h | h
    . exact h
    exact absurd hj (tail_bars hs hc inv _ i rfl hin hun j h)
   refine ⟨hjn, ?_⟩
   by_cases hji:j=i
   . subst hji;exact hy.wpOp hi hR s fun w'' r' s'=>⟨s',wpAnyX.mono hT (hT _ _ _ r r') H⟩
   have:=H.1 j (ready_mono hj hji);omega
  | succ f ih=>
   intro listed a w inv hs hfree hr hy H w' r s;have hun:listed.getD i true=false:=(mem_ready.1 hr).1;refine ⟨fun h=>(by rw [h] at hr;cases hr),fun j hj=>?_⟩
   have hjn:j < n:=by
    rcases Nat.lt_or_ge j n with h | h
    . exact h
    exact absurd hj (tail_bars hs hc inv _ i rfl hin hun j h)
   refine ⟨hjn, ?_⟩
   by_cases hji:j=i
   . subst hji;exact hy.wpOp hi hR s fun w'' r' s'=>⟨s',wpAnyX.mono hT (hT _ _ _ r r') H⟩
   have h1:=((H w' r s).2 j (ready_mono hj hji)).2;obtain ⟨hjun,oj,hoj,hall⟩:=mem_ready.1 hj;have hnot:∀ e ∈ oj.after,Region.binds md e=true->e.on ≠ i:=by
    intro e he hb heq;have h2:=hall e he hb;rw [heq,getD_both hun] at h2
    cases h2
   have h2:=wpOp_putOn hoj (hfree j oj hoj hji hjun hnot) (fun cs b=>hsel i oi cs b hi) (fun cs b=>hsel j oj cs b hoj) hQ hy h1;refine wpOp_mono ?_ h2;rintro a' w'' ⟨hy',hs',hk⟩;refine ⟨hs',ih (listed.setIfInBounds j true) a' w'' (inv.set hj hjn) hs.set ?_ (ready_mono hr (Ne.symm hji)) hy' ?_⟩
   . intro k ok hk hki hu hno;refine hfree k ok hk hki ?_ hno
     by_cases hjk:j=k
     . subst hjk;exact hjun
     rw [getD_set_ne true hjk] at hu;exact hu
   rw [Array.setIfInBounds_comm _ _ hji];exact hk
def takeB (md:Region.Mode) (ops:Array Oper) (n:Nat) (listed:Array Bool) (i:Nat):Bool:=
 Region.noSelect ops && Region.chainB md ops n && headInvB md ops n listed && sinkFrom md ops n listed && decide (i < n) && (Region.ready md ops listed).contains i && Region.free md ops listed i
theorem wpAnyX_take {oi:Oper} {v:Value} {listed:Array Bool} {a:Act} (hR:∀ w,R w w) (hT:∀ a b c,R a b->R b c->R a c) (hi:ops[i]? = some oi)
    (hb:takeB md ops n listed i=true) (hQ:∀ c a w,Q (.panic c) (a.put oi.dst v) w->Q (.panic c) a w) (hy:YieldsOn P ops S R oi v a)
    (h:wpAnyX P md ops Q S R n G f (listed.setIfInBounds i true) (a.put oi.dst v) w):wpAnyX P md ops Q S R n G (f+1) listed a w:=by
  simp only [takeB,Bool.and_eq_true,decide_eq_true_eq] at hb;obtain ⟨⟨⟨⟨⟨⟨b1,b2⟩,b3⟩,b4⟩,b5⟩,b6⟩,b7⟩:=hb;exact wpAnyX_first hR hT hi (Region.noSelect_spec b1) hQ b2 b5 f listed a w (headInvB_spec b3) (sinkFrom_spec b4) (Region.free_spec hi b7) (by simpa using b6) hy h
theorem wpAnyX_done {l:List Oper} {listed:Array Bool} {a:Act} (hb:Region.seqB md l.toArray (l.drop n).length n listed=true)
    (h:∀ w',R w w'->S w'->wpList P l.toArray Q (l.drop n) a w'):wpAnyX P md l.toArray Q S R n (l.drop n).length 0 listed a w:=
  ⟨seqB_ready hb,fun w' r s=>wpAny_of_seq (l.drop n) n listed a w' (fun j=>by simp [List.getElem?_drop]) hb (h w' r s)⟩
theorem wpAny_to_X {l:List Oper} {listed:Array Bool} {a:Act} (n f:Nat) (hR:∀ w,R w w) (hS:S w)
    (h:wpAnyX P md l.toArray Q S R n (l.drop n).length f listed a w) {N:Nat} (hN:f+(l.drop n).length=N):wpAny P md l.toArray Q N listed a w:=by
  subst hN;exact wpAny_of_X hR f listed a w hS h
end
section
variable {P:Program} {ops:Array Oper} {Q:Exit->Act->World->Prop} {md:Region.Mode} {S:World->Prop} {n G:Nat}
theorem tkX (i:Nat) {oi:Oper} {v:Value} {listed:Array Bool} {a:Act} (hi:ops[i]? = some oi) (hy:YieldsOn P ops S Ext oi v a) (h:wpAnyX P md ops Q S Ext n G f (listed.setIfInBounds i true) (a.put oi.dst v) w)
    (hb:takeB md ops n listed i=true:=by kernel_rfl) (hQ:∀ c a w,Q (.panic c) (a.put oi.dst v) w->Q (.panic c) a w:=by exact (fun _ _ _ h=>h)):wpAnyX P md ops Q S Ext n G (f+1) listed a w:=
  wpAnyX_take Ext.refl (fun _ _ _=>Ext.trans) hi hb hQ hy h
theorem tkZ (i:Nat) {oi:Oper} {v:Value} {listed:Array Bool} {a:Act} (hi:ops[i]? = some oi) (hy:∀ w,S w->(execOp a.eval oi).run P w = .ok (.value v) w) (h:wpAnyX P md ops Q S Ext n G f (listed.setIfInBounds i true) (a.put oi.dst v) w)
    (hw:Region.wanted oi (yielded ops a.tmps)=true:=by rfl) (hb:takeB md ops n listed i=true:=by kernel_rfl) (hQ:∀ c a w,Q (.panic c) (a.put oi.dst v) w->Q (.panic c) a w:=by exact (fun _ _ _ h=>h)):wpAnyX P md ops Q S Ext n G (f+1) listed a w:=
  wpAnyX_take Ext.refl (fun _ _ _=>Ext.trans) hi hb hQ (Or.inl (Or.inl ⟨hw,hy⟩)) h
theorem tkY (i:Nat) {oi:Oper} {v:Value} {q:Prop} {listed:Array Bool} {a:Act} (h:q) (hi:ops[i]? = some oi:=by exact rfl) (hy:∀ w,S w->(execOp a.eval oi).run P w = .ok (.value v) w:=by intro w q;go_simp;try with_reducible rfl) (e:wpAnyX P md ops Q S Ext n G f (listed.setIfInBounds i true) (a.put oi.dst v) w=q:=by first | (simp only [List.getElem_toArray,List.getElem_cons_zero,List.getElem_cons_succ,Act.put,List.setIfInBounds_toArray,List.set_cons_zero,List.set_cons_succ];exact rfl) | exact rfl)
    (hw:Region.wanted oi (yielded ops a.tmps)=true:=by rfl) (hb:takeB md ops n listed i=true:=by kernel_rfl) (hQ:∀ c a w,Q (.panic c) (a.put oi.dst v) w->Q (.panic c) a w:=by exact (fun _ _ _ h=>h)):wpAnyX P md ops Q S Ext n G (f+1) listed a w:=
  wpAnyX_take Ext.refl (fun _ _ _=>Ext.trans) hi hb hQ (Or.inl (Or.inl ⟨hw,hy⟩)) (e.mpr h)
theorem tkM (i:Nat) {oi:Oper} {q:Prop} {listed:Array Bool} {a:Act} (h:q) (hi:ops[i]? = some oi:=by exact rfl) (e:wpAnyX P md ops Q S Ext n G f (listed.setIfInBounds i true) (a.put oi.dst undef) w=q:=by first | (simp only [List.getElem_toArray,List.getElem_cons_zero,List.getElem_cons_succ,Act.put,List.setIfInBounds_toArray,List.set_cons_zero,List.set_cons_succ];exact rfl) | exact rfl)
    (hw:Region.wanted oi (yielded ops a.tmps)=false:=by rfl) (hb:takeB md ops n listed i=true:=by kernel_rfl) (hQ:∀ c a w,Q (.panic c) (a.put oi.dst undef) w->Q (.panic c) a w:=by exact (fun _ _ _ h=>h)):wpAnyX P md ops Q S Ext n G (f+1) listed a w:=
  wpAnyX_take Ext.refl (fun _ _ _=>Ext.trans) hi hb hQ (Or.inl (Or.inr ⟨hw,rfl⟩)) (e.mpr h)
theorem tkE (i:Nat) {oi:Oper} {v:Value} {listed:Array Bool} {a:Act} (hi:ops[i]? = some oi) (hy:∀ w,S w->(execOp a.eval oi).run P w = .ok (.value v) w) (h:wpAnyX P md ops Q S Eq n G f (listed.setIfInBounds i true) (a.put oi.dst v) w)
    (hw:Region.wanted oi (yielded ops a.tmps)=true:=by rfl) (hb:takeB md ops n listed i=true:=by kernel_rfl) (hQ:∀ c a w,Q (.panic c) (a.put oi.dst v) w->Q (.panic c) a w:=by exact (fun _ _ _ h=>h)):wpAnyX P md ops Q S Eq n G (f+1) listed a w:=
  wpAnyX_take (fun _=>rfl) (fun _ _ _ h k=>h.trans k) hi hb hQ (Or.inl (Or.inl ⟨hw,hy⟩)) h
theorem tkA (i:Nat) {oi:Oper} {v:Value} {fuel:Nat} {listed:Array Bool} {a:Act} (hi:ops[i]? = some oi) (hy:∀ w,(execOp a.eval oi).run P w = .ok (.value v) w) (h:wpAny P md ops Q fuel (listed.setIfInBounds i true) (a.put oi.dst v) w)
    (hw:Region.wanted oi (yielded ops a.tmps)=true:=by rfl) (hs:Region.noSelect ops=true:=by kernel_rfl) (hf:Region.free md ops listed i=true:=by kernel_rfl) (hr:(Region.ready md ops listed).contains i=true:=by kernel_rfl) (hQ:∀ c a w,Q (.panic c) (a.put oi.dst v) w->Q (.panic c) a w:=by exact (fun _ _ _ h=>h)):wpAny P md ops Q (fuel+1) listed a w:=
  wpAny_take hi hs hf hr hQ (Or.inl ⟨hw,hy⟩) h
end
open Go.RowKit
theorem run_clear_words (h:HAt w d S) (hz:Hp.zero S.words i n=some W) (hn:0 < n) (c:Nat) (ty:TypeId) :
    (Builtin.clear_ #[22] ty #[.slice (some ⟨d.gw,i,none⟩) n c]).run Tryz.prog w = .ok (.tuple #[]) (w.setCells d.gw i (List.replicate n (.int .i64 0))):=
  Lib.run_clear_slice w _ 3 ty (.int .i64 0) Tryz.underlying22 (fun w=>Tryz.zeroValue3 w) rfl rfl d.gw i n c hn
   (fun j hj=>by
    obtain ⟨x,hx⟩:=rd_get (l:=S.words) (j:=i+j) (by have:=(HAt.zero_len hz).2;omega);rw [h.words.get hx];rfl)
   (fun j _=>h.words.froz _)
theorem takeFrom_succ {W':List Int} {wide link r:Nat} (h:Hp.Hs.takeFrom W wide n link=some (r,W')) :
    ∃ n' a,n=n'+1/\Hp.ra W link=some a/\((a=0/\r=0/\W'=W) \/ (a ≠ 0 /\ ∃ v next,Hp.rc W (a+1)=some v/\Hp.rd W (a+2)=some next /\
     ((v-wide=0/\r=a /\ ∃ W1,Hp.wr W link next=some W1/\Hp.zero W1 a wide=some W') \/
      (v-wide ≠ 0/\3<=v-wide/\r=a /\ ∃ W1 W2 W3 W4,Hp.wr W (a+wide) 0=some W1/\Hp.wr W1 (a+wide+1) (v-wide)=some W2/\Hp.wr W2 (a+wide+2) next=some W3/\Hp.wr W3 link (a+wide:Nat)=some W4/\Hp.zero W4 a wide=some W') \/
      (v-wide ≠ 0 /\ ¬ 3<=v-wide/\Hp.Hs.takeFrom W wide n' (a+2)=some (r,W'))))):=by
  cases n with
  | zero=>simp [Hp.Hs.takeFrom] at h
  | succ n=>
   unfold Hp.Hs.takeFrom at h;simp only [Option.bind_eq_bind,Option.bind_eq_some_iff] at h;obtain ⟨a,ha,h⟩:=h;refine ⟨n,a,rfl,ha, ?_⟩
   split at h
   . rename_i h0;simp only [Option.some.injEq,Prod.mk.injEq] at h;exact .inl ⟨h0,h.1.symm,h.2.symm⟩
   rename_i h0;simp only [Option.bind_eq_some_iff] at h;obtain ⟨v,hv,next,hx,h⟩:=h;refine .inr ⟨h0,v,next,hv,hx, ?_⟩
   split at h
   . rename_i h1;simp only [Option.bind_eq_some_iff,Option.some.injEq,Prod.mk.injEq] at h;obtain ⟨W1,hW1,W2,hW2,h2,rfl⟩:=h;exact .inl ⟨h1,h2.symm,W1,hW1,hW2⟩
   rename_i h1
   split at h
   . rename_i h3;simp only [Option.bind_eq_some_iff,Option.some.injEq,Prod.mk.injEq] at h;obtain ⟨W1,hW1,W2,hW2,W3,hW3,W4,hW4,W5,hW5,h2,rfl⟩:=h;exact .inr (.inl ⟨h1,h3,h2.symm,W1,W2,W3,W4,hW1,hW2,hW3,hW4,hW5⟩)
   rename_i h3;exact .inr (.inr ⟨h1,h3,h⟩)
set_option maxRecDepth 100000 in
set_option maxHeartbeats 4000000 in
theorem take_any {wide r:Nat} (h:HAt w d S) (hn:0 < wide) (hw:wide<=1000) (hr:S.take wide=some (r,W)) :
    Calls Tryz.prog 157 #[.pointer (some ⟨d.hb,0,none⟩),.int .i64 wide] w (Turned d w (.int .i64 r) { S with words:=W }):=by
  unfold Hp.Hs.take at hr;have hle:=h.le;have hcap:=h.cap;have c2:=h.c2;have f2:=h.f2;have z1:=h.lt;have z2:=h.words.lt;have ap:=h.apart1;have ap':=h.apart1.symm;have H:=hZ (Now.refl h);have HR:=hZ hr;have hl16:16 < S.words.length:=by
   obtain ⟨n',a,_,ha,_⟩:=takeFrom_succ hr;exact rd_lt (ra_some ha)
  obtain ⟨x16,hx16⟩:∃ x,Hp.ra S.words 16=some x:=by
   obtain ⟨n',a,_,ha,_⟩:=takeFrom_succ hr;exact ⟨a,ha⟩
  have g16:=h.words.get (ra_some hx16);have X16:=hZ hx16;clear h hr hx16;go_enter Tryz.func157,Tryz.ntmps157
  go_wp2_with fail
  go_step3
  go_wp2_with fail
  go_step3
  go_wp2_with fail
  go_loopg [5,6] S.fuel (fun g l s wr=>∃ m link a:Nat,wr=w/\m<=g/\l = .int .i64 link/\s = .int .i64 a/\link < S.words.length/\Hid (Hp.ra S.words link=some a)/\Hid (Hp.Hs.takeFrom S.words wide m link=some (r,W)))
  case atStart=>exact ⟨S.fuel,16,x16,rfl,Nat.le_refl _,rfl,rfl,hl16,X16,HR⟩
  case round=>
   obtain ⟨m,link,a,rfl,hm,rfl,rfl,hlink,HA,HL⟩:=hrel;clear g16;obtain ⟨n',a1,hn',ha1,hq⟩:=takeFrom_succ HL.out;have e:=HA.out;rw [ha1] at e
   cases e
   have Hn:=hZ hn';clear hn' ha1
   rcases hq with ⟨rfl,rfl,rfl⟩ | ⟨ha,v,next,hv,hx,hq⟩
   . go_wp2_with fail
     go_returns;exact H.out.done
   obtain ⟨hv,hv1,hv2⟩:=rc_some hv;have g1:=H.out.words.get hv;have g2:=H.out.words.get hx;have l1:=rd_lt hv;have l2:=rd_lt hx;have HX:=hZ hx;have ha':((a:Int) != 0)=true:=by simpa using ha
   clear hv hx
   rcases hq with ⟨h0,rfl,W1,hW1,hW2⟩ | ⟨h0,h3,rfl,W1,W2,W3,W4,hW1,hW2,hW3,hW4,hW5⟩ | ⟨h0,h3,hq⟩
   . have hb:=H.out.words.bound HX.out;have HB:=hZ hb;have t0:((v-(wide:Int)) == 0)=true:=by simpa using h0
     have hz:=(HAt.zero_len hW2).2;have e1:S.words.length=W1.length:=(HAt.wr_len hW1).1.symm;rw [<- e1] at hz;have EW1:=hZ hW1;have EW2:=hZ hW2;clear h0 hW1 e1 hb hW2
     go_wp2_with fail
     clear c2 f2 g1 g2 z1 z2;refine wp_region_still_tail 13 (by kernel_rfl) (by kernel_rfl) ?_;change wpStill _ _ (World.drew wr) (fun a'=>wpList _ _ _ _ a' (World.drew wr)) _ _;have ED:Ext wr (World.drew wr):=Ext.drew (Ext.refl _);have HD:=hZ (H.out.ext ED);generalize World.drew wr=wd at HD ED ⊢;have c2:=HD.out.c2;have c3:=HD.out.c3;have f2:=HD.out.f2;have z1:=HD.out.lt;have z2:=HD.out.words.lt;have g1:=HD.out.words.get HX.out;have fr:=HD.out.words.froz link;have g0:=HD.out.words.get (ra_some HA.out);obtain ⟨i1,i2,i3,i4⟩:IntKind.i64.wrap (((r:Nat):Int)+2)=((r:Nat):Int)+2/\(0:Int)<=((r:Nat):Int)+2/\((r:Nat):Int)+2 < ((S.words.length:Nat):Int)/\(((r:Nat):Int)+2).toNat=r+2:=⟨IntWalk.i64_in _ (by omega),by omega,by omega,by omega⟩
     simp only [List.take_succ_cons,List.take_zero,List.drop_succ_cons,List.drop_zero]
     repeat still_step
     refine wpStill_nil ?_;clear i1 i2 i3 i4 g1;have H1:=hZ (HD.out.set EW1.out HB.out.1 HB.out.2);have hcl:=fun c ty=>run_clear_words H1.out.toHAt EW2.out hn c ty
     go_wp2_with fail
     (try rw [Exit.noGoto_ret])
     go_returns;exact (H1.out.clear EW2.out).done
   . have hb:=H.out.words.bound HX.out;have HB:=hZ hb;have t0:((v-(wide:Int)) == 0)=false:=by simpa using h0
     have hz:=(HAt.zero_len hW5).2;have b1:=HAt.wr_len hW1;have b2:=HAt.wr_len hW2;have b3:=HAt.wr_len hW3;have b4:=HAt.wr_len hW4;have q1:=b1.2;have q2:r+wide+1 < S.words.length:=by have:=b2.2;rw [b1.1] at this;exact this
     have q3:r+wide+2 < S.words.length:=by have:=b3.2;rw [b2.1,b1.1] at this;exact this
     rw [b4.1,b3.1,b2.1,b1.1] at hz;obtain ⟨y1,hy1⟩:=rd_get q1;obtain ⟨y2,hy2⟩:=rd_get q2;obtain ⟨y3,hy3⟩:=rd_get q3;have Y1:=hZ hy1;have Y2:=hZ hy2;have Y3:=hZ hy3;clear hy1 hy2 hy3;have EW1:=hZ hW1;have EW2:=hZ hW2;have EW3:=hZ hW3;have EW4:=hZ hW4;have EW5:=hZ hW5;clear h0 hW1 hb hW2 hW3 hW4 hW5 b1 b2 b3 b4
     go_wp2_with fail
     clear c2 f2 g1 g2 z1 z2;obtain ⟨i1,i2,i3,i4⟩:IntKind.i64.wrap (((r:Nat):Int)+2)=((r:Nat):Int)+2/\(0:Int)<=((r:Nat):Int)+2/\((r:Nat):Int)+2 < ((S.words.length:Nat):Int)/\(((r:Nat):Int)+2).toNat=r+2:=⟨IntWalk.i64_in _ (by omega),by omega,by omega,by omega⟩
     obtain ⟨k1,k2,k3,k4⟩:IntKind.i64.wrap (((r:Nat):Int)+((wide:Nat):Int))=((r:Nat):Int)+((wide:Nat):Int)/\(0:Int)<=((r:Nat):Int)+((wide:Nat):Int)/\((r:Nat):Int)+((wide:Nat):Int) < ((S.words.length:Nat):Int)/\(((r:Nat):Int)+((wide:Nat):Int)).toNat=r+wide:=⟨IntWalk.i64_in _ (by omega),by omega,by omega,by omega⟩
     obtain ⟨l1,l2,l3,l4⟩:IntKind.i64.wrap (((r:Nat):Int)+((wide:Nat):Int)+1)=((r:Nat):Int)+((wide:Nat):Int)+1/\(0:Int)<=((r:Nat):Int)+((wide:Nat):Int)+1/\((r:Nat):Int)+((wide:Nat):Int)+1 < ((S.words.length:Nat):Int)/\(((r:Nat):Int)+((wide:Nat):Int)+1).toNat=r+wide+1:=⟨IntWalk.i64_in _ (by omega),by omega,by omega,by omega⟩
     obtain ⟨m1,m2,m3,m4⟩:IntKind.i64.wrap (((r:Nat):Int)+((wide:Nat):Int)+2)=((r:Nat):Int)+((wide:Nat):Int)+2/\(0:Int)<=((r:Nat):Int)+((wide:Nat):Int)+2/\((r:Nat):Int)+((wide:Nat):Int)+2 < ((S.words.length:Nat):Int)/\(((r:Nat):Int)+((wide:Nat):Int)+2).toNat=r+wide+2:=⟨IntWalk.i64_in _ (by omega),by omega,by omega,by omega⟩
     have c2:=H.out.c2;have z1:=H.out.lt;have z2:=H.out.words.lt;have g1:=H.out.words.get HX.out;refine wp_region_any (by kernel_rfl) ?_;refine' tkA 9 rfl ?hy9_1 ?_
     case hy9_1=>(intro w;go_simp;try with_reducible rfl)
     refine layy ?_;refine' tkA 10 rfl ?hy10_2 ?_
     case hy10_2=>(intro w;go_simp;try with_reducible rfl)
     refine layy ?_;refine' tkA 15 rfl ?hy15_3 ?_
     case hy15_3=>(intro w;go_simp;try with_reducible rfl)
     refine layy ?_;refine' tkA 16 rfl ?hy16_4 ?_
     case hy16_4=>(intro w;go_simp;try with_reducible rfl)
     refine layy ?_;refine' tkA 17 rfl ?hy17_5 ?_
     case hy17_5=>(intro w;go_simp;try with_reducible rfl)
     refine layy ?_;have pr3a:=fun u_ (h_:Ext wr u_)=>(h_.cell z1 2).trans c2
     have pr3b:=fun u_ (h_:Ext wr u_)=>(h_.cell z2 (r+2)).trans g1
     refine wpAny_to_X (S:=fun W=>Ext wr W) (R:=Ext) 26 21 Ext.refl ?_ ?_ (by rfl)
     . exact Ext.drew exx
     refine' tkY 0 ?_;refine' tkY 1 ?_;refine' tkY 2 ?_;refine' tkY 3 ?_;refine' tkY 4 ?_;refine' tkY 5 ?_;refine' tkY 6 ?_;refine' tkY 7 ?_;refine' tkY 8 ?_;refine' tkY 11 ?_;refine' tkY 12 ?_;refine' tkY 13 ?_;refine' tkY 14 ?_;refine' tkY 18 ?_;refine' tkY 19 ?_;refine' tkY 20 ?_;refine' tkY 21 ?_;refine' tkY 22 ?_;refine' tkY 23 ?_;refine' tkY 24 ?_;refine' tkY 25 ?_;refine wpAnyX_done (by kernel_rfl) ?_;intro wd _ Ewd;clear pr3a pr3b;simp only [List.drop_succ_cons,List.drop_zero];clear c2 z1 z2 g1;have HD:=hZ (H.out.ext Ewd);have c2:=HD.out.c2;have f2:=HD.out.f2;have z1:=HD.out.lt;have z2:=HD.out.words.lt;have fr:=HD.out.words.froz link;have g0:=HD.out.words.get (ra_some HA.out);have g3:=HD.out.words.get Y1.out;have g4:=HD.out.words.get Y2.out;have g5:=HD.out.words.get Y3.out;have fr1:=HD.out.words.froz (r+wide);have fr2:=HD.out.words.froz (r+wide+1);have fr3:=HD.out.words.froz (r+wide+2);clear i1 i2 i3 i4 k1 k2 k3 k4 l1 l2 l3 l4 m1 m2 m3 m4;have H1:=hZ (HD.out.set EW1.out (by omega) (by omega));have H2:=hZ (H1.out.set EW2.out (by omega) (by omega));have H3:=hZ (H2.out.set EW3.out HB.out.1 HB.out.2);go_upto_region 12 with (fail)
     refine Now.cut H3.out ?_;intro w3 N3;have H3:=hZ N3;clear N3 fr fr1 fr2 fr3 g0 g3 g4 g5 c2 f2 z1 z2 H1 H2;have c2:=H3.out.c2;have f2:=H3.out.f2;have z1:=H3.out.lt;have z2:=H3.out.words.lt;have fr:=H3.out.words.froz link;have e3:=(HAt.wr_len EW4.out).2;obtain ⟨y,hy⟩:=rd_get e3;have g:=H3.out.words.get hy;have Y:=hZ hy;have H4:=hZ (H3.out.set EW4.out (by omega) (by omega));have hcl:=fun c ty=>run_clear_words H4.out.toHAt EW5.out hn c ty
     simp only [Int.natCast_add] at hcl H4;have E3:=hZ e3;clear hy e3
     go_wp2_with fail
     go_returns;exact (H4.out.clear EW5.out).done
   have t0:((v-(wide:Int)) == 0)=false:=by simpa using h0
   have hz:a+2 < S.words.length:=l2;obtain ⟨_,a2,_,hra2,_⟩:=takeFrom_succ hq;obtain rfl:next=(a2:Int):=by
    have h1:=HX.out;have h2:=ra_some hra2;rw [h2] at h1;exact (Option.some.inj h1).symm
   have g3:=H.out.words.get (ra_some hra2);have A2:=hZ hra2;have HQ:=hZ hq;clear h0 hq hra2
   go_wp2_with fail
   go_roundg n'
   case measure=>have:=Hn.out;omega
   case rel=>exact ⟨n',a+2,a2,rfl,Nat.le_refl _,by go_num,rfl,hz,A2,HQ⟩
def kp (d:Hd) (a:Nat) (t:Int):Option Addr:=if Hp.isEnd t then none else some ⟨d.gw,a+4,none⟩
theorem kids_some {ks:List Int} (h:S.kids a=some ks):∃ t,S.tag a=some t/\((Hp.isEnd t=true/\ks=[]) \/ (Hp.isEnd t=false/\S.fields a=some ks)):=by
 unfold Hp.Hs.kids at h
 simp only [Option.bind_eq_bind,Option.bind_eq_some_iff] at h
 obtain ⟨t,ht,h⟩:=h
 refine ⟨t,ht, ?_⟩
 cases he:Hp.isEnd t
 . rw [he] at h;exact .inr ⟨rfl,by simpa using h⟩
 rw [he] at h
 exact .inl ⟨rfl,by simpa using h.symm⟩
theorem kids_any {ks:List Int} (h:HAt w d S) (ht:S.tag a=some t) (hk:S.kids a=some ks) :
    Calls Tryz.prog 80 #[.pointer (some ⟨d.hb,0,none⟩),.int .i64 a] w fun e w'=>e = .returned (.slice (kp d a t) ks.length ks.length)/\Ext w w':=by
  obtain ⟨t',ht',hq⟩:=kids_some hk;rw [ht] at ht'
  cases ht'
  rcases hq with ⟨he,rfl⟩ | ⟨he,hf⟩
  . have:=kids_end h ht he
    simpa [kp,he] using this
  have:=kids_node h ht he hf
  simpa [kp,he] using this
theorem kids_at {ks:List Int} (h:HAt w d S) (ht:S.tag a=some t) (hk:S.kids a=some ks):SliceAt w (kp d a t) ks.length ks:=by
 obtain ⟨t',ht',hq⟩:=kids_some hk
 rw [ht] at ht'
 cases ht'
 rcases hq with ⟨he,rfl⟩ | ⟨he,hf⟩
 . exact ⟨Nat.le_refl _,by simp,by simp,fun h=>by simp at h⟩
 have:=fields_at h hf
 simpa [kp,he] using this
theorem lay_ck (h:Hp.chain t fs=some k):(∀ x ∈ fs,-9223372036854775808<=x/\x<=9223372036854775807) /\ -4611686018427387904 < t/\t < 4611686018427387904/\k < 16:=by
 simp only [Hp.chain,Option.bind_eq_bind,Option.bind_eq_some_iff,Option.pure_def,Option.some.injEq] at h
 obtain ⟨t',ht,n0,hn,r,hr,rfl⟩:=h
 obtain ⟨rfl,h1,h2⟩:=ck_some ht
 refine ⟨?_,h1,h2,by omega⟩
 clear ht hn h1 h2
 generalize (0:Int)=i at hr
 induction fs generalizing i n0 with
 | nil=>intro x hx;cases hx
 | cons f l ih=>
  simp only [Hp.sums,Option.bind_eq_bind,Option.bind_eq_some_iff] at hr;obtain ⟨f',hf,m,hm,hr⟩:=hr;obtain ⟨rfl,h1,h2⟩:=ck_some hf;intro x hx
  rcases List.mem_cons.1 hx with rfl | hx
  . omega
  exact ih _ _ hr x hx
theorem Now.copied (h:Now w0 w d S) (hs:SliceAt w p c l) (h0:0 < l.length) (hw:Hp.lay S.words i l=some W)
    (hc:∀ x ∈ l,-9223372036854775808<=x/\x<=9223372036854775807):∃ w',(∀ n c' ty,l.length<=n->(Builtin.copy_ #[22,22] ty #[.slice (some ⟨d.gw,i,none⟩) n c',.slice p l.length c]).run Tryz.prog w = .ok (goInt (l.length:Nat)) w')/\Now w0 w' d { S with words:=W } /\ (∀ {p' c' l'},SliceAt w p' c' l'->(∀ b o,p'=some ⟨b,o,none⟩->b ≠ d.gw)->SliceAt w' p' c' l'):=by
  obtain ⟨b,o,rfl,hb,hx⟩:=hs.cells h0;obtain ⟨s,hg⟩:=h.words.row;have hl:=HAt.lay_len hw;have hfit:i+(ints l).length<=(ints S.words ++ s).toArray.size:=by simp [ints];omega
  have k1:But [d.gw] w (w.setRow d.gw (splice (ints S.words ++ s) i (ints l)).toArray):=(But.refl _ _).setRow (.inl (by simp)) _;refine ⟨w.setRow d.gw (splice (ints S.words ++ s) i (ints l)).toArray,fun n c' ty hn=>?_,⟨?_,(h.but).setRow (.inl d.gw_own) _⟩,fun hs' hne=>hs'.but k1 (fun b o e hm=>hne b o e (by simpa using hm))⟩
  . have hm:Nat.min l.length n=l.length:=Nat.min_eq_left hn;have:=run_copy_rowK (P:=Tryz.prog) w 22 22 ty 3 1 d.gw i n c' ⟨b,o,none⟩ l.length c _ 3 (ints l) Tryz.underlying22 (by kernel_rfl) hg (by rw [hm];simp [ints]) (fun j v hj=>by
     rw [Addr.add_lit];obtain ⟨hj1,hj2⟩:=List.getElem?_eq_some_iff.1 hj;have hj3:j < l.length:=by simpa [ints] using hj1
     rw [hx j l[j] (List.getElem?_eq_getElem hj3),<- hj2];simp [ints]) hfit (fun v hv=>by
     obtain ⟨x,_,rfl⟩:=List.mem_map.1 hv;rfl)
    rw [hm] at this;rw [this];simp only [List.toList_toArray,splice,List.append_assoc]
  refine h.toHAt.turn (k1.mono (by simp)) (h.words.spliced hw hc (fun cur hcur hle=>?_)) hl.1 (h.map.but k1 (by simp [h.apart3.symm])) (fun a ha=>by rw [hl.1];exact h.below a ha);rw [hg] at hcur;have e:cur=ints S.words ++ s:=by
   have:=Option.some.inj hcur;injection this with e1
   simpa using e1.symm
  subst e;exact setRow_heap w d.gw _ _ _ _ hg
theorem add_some {tag:Int} {r:Nat} (h:S.add tag fs=some (r,S')):∃ a0,S.look tag fs=some a0/\((a0 ≠ 0/\r=a0/\S'=S) \/ (a0=0 /\ ∃ k a W,Hp.wide S.sizes tag=some k/\S.take k=some (a,W) /\
    ((a=0/\r=0/\S' = { S with words:=W }) \/ (a ≠ 0/\r=a /\ ∃ head x W1 W2 W3 W4 ks W5,Hp.chain tag fs=some head/\Hp.rd W head=some x/\Hp.wr W a tag=some W1/\Hp.wr W1 (a+3) x=some W2/\Hp.lay W2 (a+4) fs=some W3/\Hp.wr W3 head a=some W4 /\
     Hp.Hs.kids { S with words:=W4,taken:=Hp.Hs.insert a S.taken } a=some ks/\Hp.Hs.use 1 ks.length (a+4) W4=some W5/\S' = { S with words:=W5,taken:=Hp.Hs.insert a S.taken })))):=by
  unfold Hp.Hs.add at h;simp only [Option.bind_eq_bind,Option.bind_eq_some_iff] at h;obtain ⟨a0,h0,h⟩:=h;refine ⟨a0,h0, ?_⟩
  split at h
  . rename_i hne;simp only [Option.some.injEq,Prod.mk.injEq] at h;exact .inl ⟨hne,h.1.symm,h.2.symm⟩
  rename_i hne;simp only [Option.bind_eq_some_iff] at h;obtain ⟨k,hk,⟨a,W⟩,hW,h⟩:=h;refine .inr ⟨by omega,k,a,W,hk,hW, ?_⟩;simp only at h
  split at h
  . rename_i ha;simp only [Option.some.injEq,Prod.mk.injEq] at h;exact .inl ⟨ha,h.1.symm,h.2.symm⟩
  rename_i ha;simp only [Option.bind_eq_some_iff,Option.some.injEq,Prod.mk.injEq] at h;obtain ⟨head,h1,x,h2,W1,h3,W2,h4,W3,h5,W4,h6,ks,h7,W5,h8,rfl,rfl⟩:=h;exact .inr ⟨ha,rfl,head,x,W1,W2,W3,W4,ks,W5,h1,h2,h3,h4,h5,h6,h7,h8,rfl⟩
theorem use_succ {by':Int} {W':List Int} (h:Hp.Hs.use by' (n+1) j W=some W'):∃ k v W1,Hp.ra W j=some k/\Hp.rc W (k+1)=some v/\Hp.wr W (k+1) (v+by')=some W1/\Hp.Hs.use by' n (j+1) W1=some W':=by
 simp only [Hp.Hs.use,Option.bind_eq_bind,Option.bind_eq_some_iff] at h
 obtain ⟨k,hk,v,hv,W1,hW,h⟩:=h
 exact ⟨k,v,W1,hk,hv,hW,h⟩
theorem takeFrom_len:∀ {n:Nat} {W W':List Int} {wide link r:Nat},Hp.Hs.takeFrom W wide n link=some (r,W')->W'.length=W.length
 | 0,_,_,_,_,_,h=>by simp [Hp.Hs.takeFrom] at h
 | n+1,W,W',wide,link,r,h=>by
  obtain ⟨n',a,hn,_,hq⟩:=takeFrom_succ h
  rcases hq with ⟨_,_,rfl⟩ | ⟨_,v,next,_,_,hq⟩
  . rfl
  rcases hq with ⟨_,_,W1,h1,h2⟩ | ⟨_,_,_,W1,W2,W3,W4,h1,h2,h3,h4,h5⟩ | ⟨_,_,h1⟩
  . rw [(HAt.zero_len h2).1,(HAt.wr_len h1).1]
  . rw [(HAt.zero_len h5).1,(HAt.wr_len h4).1,(HAt.wr_len h3).1,(HAt.wr_len h2).1,(HAt.wr_len h1).1]
  obtain rfl:n=n':=by omega
  exact takeFrom_len h1
theorem Now.len (h:Now w0 w d S) (e:S.words.length=n):w.cell? ⟨d.hb,2,none⟩=some (.slice (some ⟨d.gw,0,none⟩) n d.cap):=by
 rw [<- e]
 exact h.c2
set_option maxRecDepth 100000 in
set_option maxHeartbeats 8000000 in
theorem add_any {r:Nat} {tag:Int} (h:HAt w d S) (hf:SliceAt w p c l) (h0:0 < l.length) (far:∀ b o,p=some ⟨b,o,none⟩->b ∉ d.own) (hr:S.add tag l=some (r,S')) :
    Calls Tryz.prog 107 #[.pointer (some ⟨d.hb,0,none⟩),.int .i64 tag,.slice p l.length c] w (Turned d w (.int .i64 r) S'):=by
  obtain ⟨a0,hL,hq⟩:=add_some hr;have HL:=hZ hL;have HF:=hZ hf;have FAR:=hZ far;have H:=hZ (Now.refl h);clear hL hr
  rcases hq with ⟨hne,rfl,rfl⟩ | ⟨rfl,k,a,W,hk,hT,hq⟩
  . have t0:((r:Int) != 0)=true:=by simpa using hne
    clear h hf far;go_enter Tryz.func107,Tryz.ntmps107
    go_wp2_with (go_at_call 110;refine (look_any H.out.toHAt HF.out HL.out).mono ?_;rintro e w1 ⟨rfl,hb1⟩;obtain ⟨hc1,hf1,hs1⟩:=hb1.cells)
    go_returns;exact (H.out.ext hb1).done
  have hwk:=wide_le h hk;have c0:=h.c0;have c1:=h.c1;have z1:=h.lt;have hle:=h.le;have hcap:=h.cap;have ap:=h.apart1;have ap':=h.apart1.symm;have ap2:=h.apart2;have ap3:=h.apart3;have HK:=hZ hk;have HT:=hZ hT;clear h hf far hk hT
  rcases hq with ⟨rfl,rfl,rfl⟩ | ⟨ha,rfl,head,x,W1,W2,W3,W4,ks,W5,hch,hx,hW1,hW2,hW3,hW4,hks,hW5,rfl⟩
  . go_enter Tryz.func107,Tryz.ntmps107
    go_wp2_with (first
     | (go_at_call 110;refine (look_any H.out.toHAt HF.out HL.out).mono ?_;rintro e w1 ⟨rfl,hb1⟩;obtain ⟨hc1,hf1,hs1⟩:=hb1.cells)
     | (go_at_call 123;refine (wide_any (H.out.ext hb1).sizes HK.out (by omega)).mono ?_;rintro e w2 ⟨rfl,hb2⟩;obtain ⟨hc2,hf2,hs2⟩:=hb2.cells)
     | (go_at_call 157;refine (take_any ((H.out.ext hb1).ext hb2).toHAt (by omega) (by omega) HT.out).mono ?_;rintro e w3 ⟨rfl,hA3,hB3⟩))
    go_returns;exact ⟨rfl,hA3,(But.ofExt (hb1.trans hb2)).trans hB3⟩
  have t0:((r:Int) == 0)=false:=by simpa using ha
  have e0:W.length=S.words.length:=takeFrom_len HT.out;have e1:=(HAt.wr_len hW1).1.trans e0;have e2:=(HAt.wr_len hW2).1.trans e1;have e3:=(HAt.lay_len hW3).1.trans e2;have e4:=(HAt.wr_len hW4).1.trans e3;have b0:=rd_lt hx;rw [e0] at b0;have b1:=(HAt.wr_len hW1).2;rw [e0] at b1;have b2:=(HAt.wr_len hW2).2;rw [e1] at b2;have b3:=(HAt.lay_len hW3).2;rw [e2] at b3;obtain ⟨hck,ht1,ht2,hh⟩:=lay_ck hch;have LCK:=hZ hck;have HCH:=hZ hch;have HX:=hZ hx;have EW1:=hZ hW1;have EW2:=hZ hW2;have EW3:=hZ hW3;have EW4:=hZ hW4;have EW5:=hZ hW5;have HKS:=hZ hks;generalize hn:S.words.length=n at hle e0 e1 e2 e3 e4 b0 b1 b2 b3;have E0:=hZ e0;have E1:=hZ e1;have E2:=hZ e2;have E3:=hZ e3;have E4:=hZ e4;have EN:=hZ hn;clear hn e0 e1 e2 e3 e4 hch hx hW1 hW2 hW3 hW4 hW5 hks hck;go_enter Tryz.func107,Tryz.ntmps107
  go_upto_region 8 with (first
   | (go_at_call 110;refine (look_any H.out.toHAt HF.out HL.out).mono ?_;rintro e w1 ⟨rfl,hb1⟩;obtain ⟨hc1,hf1,hs1⟩:=hb1.cells)
   | (go_at_call 123;refine (wide_any (H.out.ext hb1).sizes HK.out (by omega)).mono ?_;rintro e w2 ⟨rfl,hb2⟩;obtain ⟨hc2,hf2,hs2⟩:=hb2.cells)
   | (go_at_call 157;refine (take_any ((H.out.ext hb1).ext hb2).toHAt (by omega) (by omega) HT.out).mono ?_;rintro e w3 ⟨rfl,hA3,hB3⟩;have B3:=(But.ofExt (hb1.trans hb2)).trans hB3;have F3:=HF.out.but B3 FAR.out;have N3:=hZ (Now.mk hA3 B3);clear hA3)
   | (go_at_call 132;refine (chain_any F3 HCH.out).mono ?_;rintro e w4 ⟨rfl,hb4⟩;obtain ⟨hc4,hf4,hs4⟩:=hb4.cells))
  have N4:=hZ (N3.out.ext hb4);clear c0 c1 z1 hB3 B3 F3 hb1 hb2 hb4 N3;have c2:=N4.out.len E0.out;have z1:=N4.out.lt;have z2:=N4.out.words.lt;have g:=N4.out.words.get HX.out;obtain ⟨k1,k2,k3,k4⟩:IntKind.i64.wrap (((r:Nat):Int)+3)=((r:Nat):Int)+3/\(0:Int)<=((r:Nat):Int)+3/\((r:Nat):Int)+3 < ((n:Nat):Int)/\(((r:Nat):Int)+3).toNat=r+3:=⟨IntWalk.i64_in _ (by omega),by omega,by omega,by omega⟩
  have k5:IntKind.i64.wrap (r:Int)=r:=IntWalk.i64_in _ (by omega);refine wp_region_any (by kernel_rfl) ?_;refine' tkA 10 rfl ?hy10_1 ?_
  case hy10_1=>(intro w;go_simp;try with_reducible rfl)
  refine layy ?_;refine' tkA 11 rfl ?hy11_2 ?_
  case hy11_2=>(intro w;go_simp;try with_reducible rfl)
  refine layy ?_;have pr4a:=fun u_ (h_:Ext w4 u_)=>(h_.cell z1 2).trans c2
  have pr4b:=fun u_ (h_:Ext w4 u_)=>(h_.cell z2 head).trans g
  refine wpAny_to_X (S:=fun W=>Ext w4 W) (R:=Ext) 20 18 Ext.refl ?_ ?_ (by rfl)
  . exact Ext.drew exx
  refine' tkY 0 ?_;refine' tkY 1 ?_;refine' tkY 2 ?_;refine' tkY 3 ?_;refine' tkY 4 ?_;refine' tkY 5 ?_;refine' tkY 6 ?_;refine' tkY 7 ?_;refine' tkY 8 ?_;refine' tkY 9 ?_;refine' tkY 12 ?_;refine' tkY 13 ?_;refine' tkY 14 ?_;refine' tkY 15 ?_;refine' tkY 16 ?_;refine' tkY 17 ?_;refine' tkY 18 ?_;refine' tkY 19 ?_;refine wpAnyX_done (by kernel_rfl) ?_;intro w5 _ Ew5;clear pr4a pr4b;simp only [List.drop_succ_cons,List.drop_zero];clear c2 z1 z2 g k1 k2 k3 k4 k5;have N5:=hZ (N4.out.ext Ew5);obtain ⟨y1,hy1⟩:=rd_get (l:=W) (j:=r) (by rw [E0.out];exact b1);obtain ⟨y2,hy2⟩:=rd_get (l:=W) (j:=r+3) (by rw [E0.out];exact b2);have g1:=N5.out.words.get hy1;have g2:=N5.out.words.get hy2;have f1:=N5.out.words.froz r;have f2:=N5.out.words.froz (r+3);have z2:=N5.out.words.lt;have HB:=N5.out.words.bound HX.out;have hb1:=HB.1;have hb2:=HB.2;clear hy1 hy2 HB;have N6:=hZ ((N5.out.set EW1.out (by omega) (by omega)).set EW2.out hb1 hb2);go_upto_region 9 with (fail)
  refine Now.cut N6.out ?_;clear N6 N5 N4 g1 g2 f1 f2 z2;intro w6 N6';have N6:=hZ N6';clear N6' Ew5;have F6:=HF.out.but N6.out.but FAR.out;obtain ⟨w7,hcp,N7',-⟩:=N6.out.copied F6 h0 EW3.out LCK.out;have hcp':=fun ty=>hcp (n-(r+4)) (d.cap-(r+4)) ty (by omega)
  have N7:=hZ N7';have c2:=N6.out.len E2.out;have z1:=N6.out.lt;clear hcp N7' F6;go_upto_region 10 with (fail)
  clear hcp' c2 z1 N6;have c2:=N7.out.len E3.out;have c3:=N7.out.c3;have z1:=N7.out.lt;refine wp_region_any (by kernel_rfl) ?_;refine' tkA 9 rfl ?hy9_21 ?_
  case hy9_21=>(intro w;go_simp;try with_reducible rfl)
  refine layy ?_;have pr5a:=fun u_ (h_:Ext w7 u_)=>(h_.cell z1 2).trans c2
  have pr5b:=fun u_ (h_:Ext w7 u_)=>(h_.cell z1 3).trans c3
  refine wpAny_to_X (S:=fun W=>Ext w7 W) (R:=Ext) 11 10 Ext.refl ?_ ?_ (by rfl)
  . exact Ext.drew exx
  refine' tkY 0 ?_;refine' tkY 1 ?_;refine' tkY 2 ?_;refine' tkY 3 ?_;refine' tkY 4 ?_;refine' tkY 5 ?_;refine' tkY 6 ?_;refine' tkY 7 ?_;refine' tkY 8 ?_;refine' tkY 10 ?_;refine wpAnyX_done (by kernel_rfl) ?_;intro w8 _ Ew8;clear pr5a pr5b;simp only [List.drop_succ_cons,List.drop_zero];clear c2 c3 z1;have N8:=hZ (N7.out.ext Ew8);obtain ⟨y1,hy1⟩:=rd_get (l:=W3) (j:=head) (by rw [E3.out];exact b0);have g1:=N8.out.words.get hy1;have f1:=N8.out.words.froz head;have N9:=hZ (N8.out.set EW4.out (by omega) (by omega));have hb1:∀ a' ∈ Hp.Hs.insert r S.taken,a' < n:=fun a' ha'=>by
   rcases (mem_ins r a' S.taken).1 ha' with rfl | h'
   . omega
   have:=N9.out.below a' h';rw [E4.out] at this;exact this
  obtain ⟨v0,st,x1,x2,hm1,-,hm2,hm3,hm4⟩:=N9.out.map.enter (t:=102) Tryz.underlying3 Tryz.underlying4 Tryz.underlying102 (fun u=>Tryz.zeroValue4 u) (by have:=N9.out.taken_len;have:=N9.out.small;unfold maxLen;omega) (a:=r) (by omega);unfold goInt at hm1 hm2;have N10:=hZ (N9.out.mapped hm4 hm3 (fun a' ha'=>by rw [E4.out];exact hb1 a' ha'));clear hb1 hm3 hm4 hy1;go_upto_region 11 with (fail)
  clear hm1 hm2 g1 f1 N9 N8 N7 Ew8;obtain ⟨t',ht',hkq⟩:=kids_some HKS.out;have HT':=hZ ht';have HKQ:=hZ hkq;clear ht' hkq;have K10:=hZ (kids_at N10.out.toHAt HT'.out HKS.out)
  go_wp2_with (go_at_call 80;refine (kids_any N10.out.toHAt HT'.out HKS.out).mono ?_;rintro e w1 ⟨rfl,hb1⟩;obtain ⟨hc1,hf1,hs1⟩:=hb1.cells)
  have N11:=hZ (N10.out.ext hb1);generalize hpk:kp d r t'=pk;have HPK:=hZ hpk;have hb4':=HKQ.out;have hks:ks.length<=1000000:=by
   rcases hb4' with ⟨_,rfl⟩ | ⟨_,hf'⟩
   . simp
   obtain ⟨_,q,_,_,h4,h5,_⟩:=fields_some hf';have:=N10.out.small;simp only at h5 this;omega
  clear hpk N10 K10 hb1 hc1 hf1 hs1 hb4'
  go_loopg [81] ks.length (fun g i wr=>∃ (j:Nat) (V:List Int),j<=ks.length/\ks.length-j<=g/\i = .int .i64 j/\Hid (Now w wr d { S with words:=V,taken:=Hp.Hs.insert r S.taken })/\Hid (Hp.Hs.use 1 (ks.length-j) (r+4+j) V=some W5)/\Hid (V.length=n))
  case atStart=>exact ⟨0,W4,Nat.zero_le _,by omega,rfl,N11,EW5,E4⟩
  case round=>
   obtain ⟨j,V,hj,hg,rfl,NV,HU,HV⟩:=hrel;clear N11
   by_cases hlt:j < ks.length
   . obtain rfl:pk=some ⟨d.gw,r+4,none⟩:=by
       rw [<- HPK.out]
       rcases HKQ.out with ⟨_,rfl⟩ | ⟨he,_⟩
       . simp at hlt
       simp [kp,he]
     have hu:=HU.out;rw [show ks.length-j=(ks.length-(j+1))+1 by omega] at hu;obtain ⟨kid,v,V1,h1,h2,h3,h4⟩:=use_succ hu;obtain ⟨h2,v1,v2⟩:=rc_some h2;have g1:=NV.out.words.get (ra_some h1);have g2:=NV.out.words.get h2;have f1:=NV.out.words.froz (kid+1);have c2:=NV.out.len HV.out;have l2:=rd_lt h2;rw [HV.out] at l2;have NV1:=hZ (NV.out.set h3 (by omega) (by omega));have HV1:=hZ ((HAt.wr_len h3).1.trans HV.out);have HU1:=hZ h4;clear hu h1 h2 h3 h4 NV HU HV
     go_wp2_with fail
     go_roundg (ks.length-(j+1))
     case measure=>omega
     case rel=>exact ⟨j+1,V1,by omega,Nat.le_refl _,by go_num,NV1,HU1,HV1⟩
   have:j=ks.length:=by omega
   subst this;have hu:=HU.out;rw [Nat.sub_self] at hu;obtain rfl:V=W5:=by simpa [Hp.Hs.use] using hu
   clear hu HU EW5
   go_wp2_with fail
   go_returns;exact NV.out.done
def err8 (a:Nat):Int:=if a=0 then 8 else 0
theorem full_any (a:Nat) (w:World):Calls Tryz.prog 106 #[.int .i64 a] w fun e w'=>e = .returned (.tuple #[.int .i64 a,.int .i64 (err8 a)])/\Ext w w':=by
 by_cases h:a=0
 . subst h;go_enter Tryz.func106,Tryz.ntmps106;go_wp2
   go_ret2
   exact ⟨rfl,exx⟩
 have t0:((a:Int) == 0)=false:=by simpa using h
 have e:err8 a=0:=if_neg h
 rw [e]
 clear h e
 go_enter Tryz.func106,Tryz.ntmps106
 go_wp2
 go_ret2
 exact ⟨rfl,exx⟩
theorem isMade_yes (h:HAt w d S):Calls Tryz.prog 72 #[.pointer (some ⟨d.hb,0,none⟩)] w fun e w'=>e = .returned (.bool true)/\Ext w w':=by
 have c2:=h.c2
 clear h
 go_enter Tryz.func72,Tryz.ntmps72
 go_wp2
 go_returns
 exact ⟨rfl,exx⟩
theorem has_lit (S:Hp.Hs) (x:Int):hasLit S.taken (.int .i64 x)=S.has x:=rfl
theorem run_look (h:HAt w d S) {b:Bool} (hb:S.has x=b) (h1 : -9223372036854775808<=x) (h2:x<=9223372036854775807) :
    (Instr.lookup 102 (.map (some d.gm)) (.int .i64 x) false).run Tryz.prog w = .ok (.bool b) w:=by
  rw [<- hb,<- has_lit];exact h.map.look Tryz.underlying3 Tryz.underlying4 Tryz.underlying102 (Tryz.zeroValue4 w) h1 h2
theorem isTaken_any (h:HAt w d S) {b:Bool} (hb:S.has x=b) (h1 : -9223372036854775808<=x) (h2:x<=9223372036854775807) :
    Calls Tryz.prog 128 #[.pointer (some ⟨d.hb,0,none⟩),.int .i64 x] w fun e w'=>e = .returned (.bool b)/\Ext w w':=by
  have hl:=run_look h hb h1 h2;have c3:=h.c3;clear h hb;go_enter Tryz.func128,Tryz.ntmps128;go_wp2;go_returns;exact ⟨rfl,exx⟩
theorem open_yes (h:HAt w d S) (hb:S.has x=true) (h1 : -9223372036854775808<=x) (h2:x<=9223372036854775807) :
    Calls Tryz.prog 77 #[.pointer (some ⟨d.hb,0,none⟩),.int .i64 x] w fun e w'=>e = .returned (.int .i64 0)/\Ext w w':=by
  have H:=hZ h;have HB:=hZ hb;clear h hb;go_enter Tryz.func77,Tryz.ntmps77
  go_wp2_with (go_at_call 72;refine (isMade_yes H.out).mono ?_;rintro e w1 ⟨rfl,hb1⟩;obtain ⟨hc1,hf1,hs1⟩:=hb1.cells;have c3:=(H.out.ext hb1).c3;have hl:=run_look (H.out.ext hb1) HB.out h1 h2)
  go_returns;exact ⟨rfl,exx⟩
theorem open_no (h:HAt w d S) (hb:S.has x=false) (h1 : -9223372036854775808<=x) (h2:x<=9223372036854775807) :
    Calls Tryz.prog 77 #[.pointer (some ⟨d.hb,0,none⟩),.int .i64 x] w fun e w'=>e = .returned (.int .i64 7)/\Ext w w':=by
  have H:=hZ h;have HB:=hZ hb;clear h hb;go_enter Tryz.func77,Tryz.ntmps77
  go_wp2_with (go_at_call 72;refine (isMade_yes H.out).mono ?_;rintro e w1 ⟨rfl,hb1⟩;obtain ⟨hc1,hf1,hs1⟩:=hb1.cells;have c3:=(H.out.ext hb1).c3;have hl:=run_look (H.out.ext hb1) HB.out h1 h2)
  go_returns;exact ⟨rfl,exx⟩
theorem Hold_any {e0:Int} (h:HAt w d S) (hr:S.hold x=some (e0,S')) (h1 : -9223372036854775808<=x) (h2:x<=9223372036854775807) :
    Calls Tryz.prog 53 #[.pointer (some ⟨d.hb,0,none⟩),.int .i64 x] w (Turned d w (.int .i64 e0) S'):=by
  have H:=hZ (Now.refl h);clear h;unfold Hp.Hs.hold at hr
  cases hb:S.has x with
  | false=>
   rw [if_pos hb] at hr;simp only [Option.some.injEq,Prod.mk.injEq] at hr;obtain ⟨rfl,rfl⟩:=hr;have HB:=hZ hb;clear hb;go_enter Tryz.func53,Tryz.ntmps53
   go_wp2_with (go_at_call 77;refine (open_no H.out.toHAt HB.out h1 h2).mono ?_;rintro e w1 ⟨rfl,hb1⟩;obtain ⟨hc1,hf1,hs1⟩:=hb1.cells)
   go_returns;exact (H.out.ext hb1).done
  | true=>
   have hx0:0<=x:=by
    unfold Hp.Hs.has at hb;simp at hb;exact hb.1
   obtain ⟨a,rfl⟩:=Int.eq_ofNat_of_zero_le hx0;have HB:=hZ hb;rw [if_neg (by rw [hb];simp)] at hr;simp only [Option.bind_eq_bind,Option.bind_eq_some_iff,Option.pure_def,Option.some.injEq,Prod.mk.injEq,Int.toNat_natCast] at hr;obtain ⟨v,hv,W,hW,rfl,rfl⟩:=hr;obtain ⟨hv,v1,v2⟩:=rc_some hv;have hl:=rd_lt hv;have HV:=hZ hv;have HW:=hZ hW;have sm:=H.out.small;clear hb hv hW hx0 h1 h2;go_enter Tryz.func53,Tryz.ntmps53
   go_wp2_with (go_at_call 77;refine (open_yes H.out.toHAt HB.out (by omega) (by omega)).mono ?_;rintro e w1 ⟨rfl,hb1⟩;obtain ⟨hc1,hf1,hs1⟩:=hb1.cells;have N1:=hZ (H.out.ext hb1);have c2:=N1.out.c2;have g:=N1.out.words.get HV.out;have f:=N1.out.words.froz (a+2))
   go_returns;exact (N1.out.set HW.out (by omega) (by omega)).done
theorem Drop_any {e0:Int} (h:HAt w d S) (hr:S.drop x=some (e0,S')) (h1 : -9223372036854775808<=x) (h2:x<=9223372036854775807) :
    Calls Tryz.prog 46 #[.pointer (some ⟨d.hb,0,none⟩),.int .i64 x] w (Turned d w (.int .i64 e0) S'):=by
  have H:=hZ (Now.refl h);clear h;unfold Hp.Hs.drop at hr
  cases hb:S.has x with
  | false=>
   rw [if_pos hb] at hr;simp only [Option.some.injEq,Prod.mk.injEq] at hr;obtain ⟨rfl,rfl⟩:=hr;have HB:=hZ hb;clear hb;go_enter Tryz.func46,Tryz.ntmps46
   go_wp2_with (go_at_call 77;refine (open_no H.out.toHAt HB.out h1 h2).mono ?_;rintro e w1 ⟨rfl,hb1⟩;obtain ⟨hc1,hf1,hs1⟩:=hb1.cells)
   go_returns;exact (H.out.ext hb1).done
  | true=>
   have hx0:0<=x:=by
    unfold Hp.Hs.has at hb;simp at hb;exact hb.1
   obtain ⟨a,rfl⟩:=Int.eq_ofNat_of_zero_le hx0;have HB:=hZ hb;rw [if_neg (by rw [hb];simp)] at hr;simp only [Option.bind_eq_bind,Option.bind_eq_some_iff,Int.toNat_natCast] at hr;obtain ⟨v,hv,hr⟩:=hr;obtain ⟨hv,v1,v2⟩:=rc_some hv;have hl:=rd_lt hv;have HV:=hZ hv;have sm:=H.out.small;clear hb hv hx0 h1 h2
   by_cases h0:v=0
   . rw [if_pos h0] at hr;simp only [Option.some.injEq,Prod.mk.injEq] at hr;obtain ⟨rfl,rfl⟩:=hr;subst h0;go_enter Tryz.func46,Tryz.ntmps46
     go_wp2_with (go_at_call 77;refine (open_yes H.out.toHAt HB.out (by omega) (by omega)).mono ?_;rintro e w1 ⟨rfl,hb1⟩;obtain ⟨hc1,hf1,hs1⟩:=hb1.cells;have N1:=hZ (H.out.ext hb1);have c2:=N1.out.c2;have g:=N1.out.words.get HV.out;have f:=N1.out.words.froz (a+2))
     go_returns;exact N1.out.done
   rw [if_neg h0] at hr;simp only [Option.bind_eq_some_iff,Option.pure_def,Option.some.injEq,Prod.mk.injEq] at hr;obtain ⟨W,hW,rfl,rfl⟩:=hr;have HW:=hZ hW;have t0:(v == 0)=false:=by simpa using h0
   clear hW h0;go_enter Tryz.func46,Tryz.ntmps46
   go_wp2_with (go_at_call 77;refine (open_yes H.out.toHAt HB.out (by omega) (by omega)).mono ?_;rintro e w1 ⟨rfl,hb1⟩;obtain ⟨hc1,hf1,hs1⟩:=hb1.cells;have N1:=hZ (H.out.ext hb1);have c2:=N1.out.c2;have g:=N1.out.words.get HV.out;have f:=N1.out.words.froz (a+2))
   go_returns;exact (N1.out.set HW.out (by omega) (by omega)).done
def Says (w:World) (g:Nat) (first cap:Array Value) (l:List Int) (q:Int->Bool):Prop:=
 ∀ (j:Nat) (x:Int),Hp.rd l j=some x->(∀ i y,i < j->Hp.rd l i=some y->q y=false) -> ∀ W,Ext w W->Calls Tryz.prog g (first ++ #[.int .i64 x] ++ cap) W fun e w'=>e = .returned (.bool (q x))/\Ext W w'
def firstAt (q:Int->Bool) (l:List Int):Int:=match l.findIdx? q with | some i=>i | none=>-1
theorem firstAt_hit {q:Int->Bool} (hk:Hp.rd l k=some x) (hq:q x=true) (h:∀ i y,i < k->Hp.rd l i=some y->q y=false):firstAt q l=k:=by
 have e:l.findIdx? q=some k:=by
  rw [List.findIdx?_eq_some_iff_getElem];unfold Hp.rd at hk h;obtain ⟨hl,he⟩:=List.getElem?_eq_some_iff.1 hk;exact ⟨hl,by rw [he];exact hq,fun j hj=>by rw [h j _ hj (List.getElem?_eq_getElem (by omega))];simp⟩
 simp [firstAt,e]
theorem firstAt_miss {q:Int->Bool} (h:∀ i y,i < l.length->Hp.rd l i=some y->q y=false):firstAt q l = -1:=by
 have e:l.findIdx? q=none:=by
  rw [List.findIdx?_eq_none_iff];intro y hy;obtain ⟨j,hj,rfl⟩:=List.getElem_of_mem hy;exact h j _ hj (List.getElem?_eq_getElem hj)
 simp [firstAt,e]
theorem firstAt_any (q:Int->Bool) (l:List Int):decide (0<=firstAt q l)=l.any q:=by
 unfold firstAt
 cases h:l.findIdx? q with
 | none=>
  have:=List.findIdx?_eq_none_iff.1 h;simp only [show ¬ (0:Int) <= -1 by omega,decide_false]
  symm
  rw [List.any_eq_false];intro x hx;rw [this x hx];simp
 | some i=>
  obtain ⟨hl,hq,_⟩:=List.findIdx?_eq_some_iff_getElem.1 h;simp only [Int.natCast_nonneg,decide_true]
  symm
  rw [List.any_eq_true];exact ⟨l[i],List.getElem_mem _,hq⟩
set_option maxHeartbeats 2000000 in
theorem sIndexFunc_any {cap:Array Value} {q:Int->Bool} (eg:∀ args w,(callFunc g args).run Tryz.prog w = .ok (.enter g args) w) (h:SliceAt w p c l) (hs:Says w g #[] cap l q) :
    Calls Tryz.prog 186 #[.slice p l.length c,.func (.func g) #[] cap] w fun e w'=>e = .returned (.int .i64 (firstAt q l))/\Ext w w':=by
  have hle:=h.le;have hcap:=h.cap;have H:=hZ h;have HS:=hZ hs;clear h hs;generalize hL:l.length=n at hle ⊢;have HL:=hZ hL;clear hL;go_enter Tryz.func186,Tryz.ntmps186;go_wp2
  go_loopg [8] n (fun gg s8 wr=>∃ kk:Nat,kk<=n/\n-kk<=gg/\s8 = .int .i64 kk/\Aside (Ext w wr)/\Aside (∀ i y,i < kk->Hp.rd l i=some y->q y=false))
  case atStart=>exact ⟨0,Nat.zero_le _,by omega,rfl,Ext.refl w,fun i y hi=>absurd hi (Nat.not_lt_zero _)⟩
  case round=>
   obtain ⟨kk,hkk,hg,rfl,E,A⟩:=hrel
   by_cases hlt:kk < n
   . obtain ⟨x,hx⟩:=rd_get (l:=l) (j:=kk) (by rw [HL.out];exact hlt);obtain ⟨b,o,rfl,hb,hc⟩:=(H.out.ext E.out).cells (by rw [HL.out];omega);have g1:=hc kk x hx;have hcall:=hZ (HS.out kk x hx A.out wr E.out);have HX:=hZ hx;clear hc hx
     cases hq:q x with
     | true=>
      have HQ:=hZ hq;clear hq
      go_wp2_with (go_at_fn g;refine (Calls.mono hcall.out ?_);rintro e w' ⟨rfl,hb'⟩;rw [HQ.out])
      go_returns;exact ⟨by rw [firstAt_hit HX.out HQ.out A.out];rfl,E.out.trans hb'⟩
     | false=>
      have HQ:=hZ hq;clear hq
      go_wp2_with (go_at_fn g;refine (Calls.mono hcall.out ?_);rintro e w' ⟨rfl,hb'⟩;rw [HQ.out])
      go_roundg (n-(kk+1))
      case measure=>omega
      case rel=>
       refine ⟨kk+1,by omega,by omega,by go_num,(show Aside _ from E.out.trans hb'),(show Aside _ from fun i y hi hy=>?_)⟩
       by_cases e:i=kk
       . subst e;have:=HX.out;rw [hy] at this
         cases this
         exact HQ.out
       exact A.out i y (by omega) hy
   have:kk=n:=by omega
   subst this;go_wp2;go_returns;exact ⟨by rw [firstAt_miss (by rw [HL.out];exact A.out)];rfl,E.out⟩
theorem sContainsFunc_any {cap:Array Value} {q:Int->Bool} {b:Bool} (eg:∀ args w,(callFunc g args).run Tryz.prog w = .ok (.enter g args) w) (h:SliceAt w p c l) (hs:Says w g #[] cap l q) (hb:l.any q=b) :
    Calls Tryz.prog 167 #[.slice p l.length c,.func (.func g) #[] cap] w fun e w'=>e = .returned (.bool b)/\Ext w w':=by
  rw [<- firstAt_any] at hb;have H:=hZ h;have HS:=hZ hs;have EG:=hZ eg;clear h hs eg;subst hb;go_enter Tryz.func167,Tryz.ntmps167
  go_wp2_with (go_at_call 186;refine (sIndexFunc_any EG.out H.out HS.out).mono ?_;rintro e w1 ⟨rfl,hb1⟩;obtain ⟨hc1,hf1,hs1⟩:=hb1.cells)
  go_returns;exact ⟨rfl,exx⟩
theorem every1_any {bx:Nat} {first cap:Array Value} {b:Bool} (eg:∀ args w,(callFunc g args).run Tryz.prog w = .ok (.enter g args) w) (hc:w.cell? ⟨bx,0,none⟩=some (.func (.func g) first cap))
    (hs:Calls Tryz.prog g (first ++ #[.int .i64 x] ++ cap) w fun e w'=>e = .returned (.bool b)/\Ext w w') :
    Calls Tryz.prog 168 #[.int .i64 x,.pointer (some ⟨bx,0,none⟩)] w fun e w'=>e = .returned (.bool (!b))/\Ext w w':=by
  have HS:=hZ hs;clear hs;go_enter Tryz.func168,Tryz.ntmps168
  go_wp2_with (go_at_fn g;refine (Calls.mono HS.out ?_);rintro e w' ⟨rfl,hb'⟩)
  go_returns;exact ⟨rfl,hb'⟩
def SaysAll (w:World) (g:Nat) (first cap:Array Value) (l:List Int) (is:Int->Bool):Prop:=
 ∀ (j:Nat) (x:Int),Hp.rd l j=some x->(∀ i y,i < j->Hp.rd l i=some y->is y=true) -> ∀ W,Ext w W->Calls Tryz.prog g (first ++ #[.int .i64 x] ++ cap) W fun e w'=>e = .returned (.bool (is x))/\Ext W w'
theorem SliceAt.lt {w':World} (h:SliceAt w p c l) (o:Obj):SliceAt (w.alloc o) p c l:=h.ext (Ext.alloc (Ext.refl w) o)
theorem all_any (l:List Int) (is:Int->Bool):l.all is = !(l.any fun x=>!is x):=by
 induction l with
 | nil=>rfl
 | cons a r ih=>simp [List.all_cons,List.any_cons,ih]
theorem every_any {first cap:Array Value} {is:Int->Bool} {b:Bool} (eg:∀ args w,(callFunc g args).run Tryz.prog w = .ok (.enter g args) w) (h:SliceAt w p c l) (hs:SaysAll w g first cap l is) (hb:l.all is=b) :
    Calls Tryz.prog 124 #[.slice p l.length c,.func (.func g) first cap] w fun e w'=>e = .returned (.bool b)/\Ext w w':=by
  rw [all_any] at hb;have key:∀ t,Says (w.alloc (.cells #[.func (.func g) first cap] t)) 168 #[] #[.pointer (some ⟨w.heap.size,0,none⟩)] l (fun x=>!is x):=by
   intro t j x hx hall W hW;have hlt:w.heap.size < (w.alloc (.cells #[.func (.func g) first cap] t)).heap.size:=by simp
   have hc:W.cell? ⟨w.heap.size,0,none⟩=some (.func (.func g) first cap):=by
    rw [hW.cell hlt 0];have:=World.cell?_alloc_mark w #[.func (.func g) first cap] t (0,0) 0;rw [this];rfl
   have:=every1_any eg hc (hs j x hx (fun i y hi hy=>by simpa using hall i y hi hy) W ((Ext.alloc (Ext.refl w) _).trans hW))
   simpa using this
  have H:=hZ h;have K:=hZ key;clear h hs eg key;subst hb;go_enter Tryz.func124,Tryz.ntmps124
  go_wp2_with (go_at_call 167;refine (sContainsFunc_any (b:=l.any fun x=>!is x) (enters_of Tryz.func168 (by kernel_rfl) rfl) (H.out.ext (Ext.alloc (Ext.refl w) _)) (K.out _) rfl).mono ?_;rintro e w1 ⟨rfl,hb1⟩;obtain ⟨hc1,hf1,hs1⟩:=hb1.cells)
  go_returns;exact ⟨rfl,exx⟩
theorem alike1_any {bx:Nat} {y:Int} (hc:w.cell? ⟨bx,0,none⟩=some (.slice p l.length c)) (h:SliceAt w p c l) (hy:Hp.rd l 0=some y) :
    Calls Tryz.prog 159 #[.int .i64 x,.pointer (some ⟨bx,0,none⟩)] w fun e w'=>e = .returned (.bool (x == y))/\Ext w w':=by
  obtain ⟨b,o,rfl,hb,hx⟩:=h.cells (by have:=rd_lt hy;omega);have g:=hx 0 y hy;have h0:=rd_lt hy;have hcap:=h.cap;have hle:=h.le;clear h hx hy;generalize l.length=n at *;simp only [Nat.add_zero] at g;go_enter Tryz.func159,Tryz.ntmps159;go_wp2;go_returns;exact ⟨rfl,exx⟩
theorem alike_eq {y:Int} (hy:Hp.rd l 0=some y):l.all (fun x=>x == y)=Hp.Hs.alike l:=by
 cases l with
 | nil=>cases hy
 | cons a r=>
  have:a=y:=by simpa [Hp.rd] using hy
  subst this;rfl
theorem alike_any {b:Bool} (h:SliceAt w p c l) (h0:0 < l.length) (hb:Hp.Hs.alike l=b) :
    Calls Tryz.prog 109 #[.slice p l.length c] w fun e w'=>e = .returned (.bool b)/\Ext w w':=by
  obtain ⟨y,hy⟩:=rd_get h0;rw [<- alike_eq hy] at hb;have key:∀ t,SaysAll (w.alloc (.cells #[.slice p l.length c] t)) 159 #[] #[.pointer (some ⟨w.heap.size,0,none⟩)] l (fun x=>x == y):=by
   intro t j x hx _ W hW;have hlt:w.heap.size < (w.alloc (.cells #[.slice p l.length c] t)).heap.size:=by simp
   have hc:W.cell? ⟨w.heap.size,0,none⟩=some (.slice p l.length c):=by
    rw [hW.cell hlt 0];have:=World.cell?_alloc_mark w #[.slice p l.length c] t (0,0) 0;rw [this];rfl
   have:=alike1_any (x:=x) hc (h.ext ((Ext.alloc (Ext.refl w) _).trans hW)) hy
   simpa using this
  have H:=hZ h;have K:=hZ key;have HB:=hZ hb;clear h key hy hb;go_enter Tryz.func109,Tryz.ntmps109
  go_wp2_with (go_at_call 124;refine (every_any (enters_of Tryz.func159 (by kernel_rfl) rfl) (H.out.ext (Ext.alloc (Ext.refl w) _)) (K.out _) HB.out).mono ?_;rintro e w1 ⟨rfl,hb1⟩;obtain ⟨hc1,hf1,hs1⟩:=hb1.cells)
  go_returns;exact ⟨rfl,exx⟩
def isL (S:Hp.Hs) (choice x:Int):Bool:=match (do Hp.ck (<- S.tag (<- Hp.adr x)):Option Int) with
 | some t=>decide (Hp.rank S.order t > Hp.rank S.order (choice+1))
 | none=>false
theorem laters_spec {S:Hp.Hs} {choice:Int}:∀ {l:List Int} {b:Bool},S.laters choice l=some b->l.all (isL S choice)=b /\
    ∀ (j:Nat) (x:Int),Hp.rd l j=some x->(∀ i y,i < j->Hp.rd l i=some y->isL S choice y=true) -> ∃ (a:Nat) (t:Int),x=a/\S.tag a=some t /\ -4611686018427387904 < t/\t < 4611686018427387904
  | [],b,h=>by
   simp only [Hp.Hs.laters,Option.some.injEq] at h;subst h;exact ⟨rfl,fun j x hx=>by cases hx⟩
  | k :: r,b,h=>by
   simp only [Hp.Hs.laters,Option.bind_eq_bind,Option.bind_eq_some_iff] at h;obtain ⟨a,ha,t,ht,t',ht',h⟩:=h;have e:isL S choice k=decide (Hp.rank S.order t' > Hp.rank S.order (choice+1)):=by simp [isL,ha,ht,ht']
   obtain ⟨rfl,h1,h2⟩:=ck_some ht';have hka:=adr_some ha
   split at h
   . rename_i hr;obtain ⟨i1,i2⟩:=laters_spec h;have ek:isL S choice k=true:=by rw [e];exact decide_eq_true hr
     refine ⟨by rw [List.all_cons,ek,i1];rfl,fun j x hx hall=>?_⟩
     cases j with
     | zero=>
      have:k=x:=by simpa [Hp.rd] using hx
      subst this;exact ⟨a,t',hka,ht,h1,h2⟩
     | succ j=>exact i2 j x (by simpa [Hp.rd] using hx) (fun i y hi hy=>hall (i+1) y (by omega) (by simpa [Hp.rd] using hy))
   rename_i hr;have ek:isL S choice k=false:=by rw [e];exact decide_eq_false hr
   simp only [Option.some.injEq] at h;subst h;refine ⟨by rw [List.all_cons,ek];rfl,fun j x hx hall=>?_⟩
   cases j with
   | zero=>
    have:k=x:=by simpa [Hp.rd] using hx
    subst this;exact ⟨a,t',hka,ht,h1,h2⟩
   | succ j=>
    have:=hall 0 k (by omega) rfl;rw [ek] at this
    cases this
theorem isL_eq (ht:S.tag a=some t) (h1 : -4611686018427387904 < t) (h2:t < 4611686018427387904):isL S choice a=decide (Hp.rank S.order t > Hp.rank S.order (choice+1)):=by
 have e:Hp.adr (a:Int)=some a:=by simp [Hp.adr]
 have e2:Hp.ck t=some t:=by simp [Hp.ck,h1,h2]
 simp [isL,e,ht,e2]
set_option maxHeartbeats 2000000 in
theorem checkNode1_any {bx by':Nat} (h:HAt w d S) (hx:w.cell? ⟨bx,0,none⟩=some (.pointer (some ⟨d.hb,0,none⟩))) (hy:w.cell? ⟨by',0,none⟩=some (.int .i64 choice)) (hc1 : -1<=choice) (hc2:choice<=1000000)
    (ht:S.tag a=some t) (h1 : -4611686018427387904 < t) (h2:t < 4611686018427387904) :
    Calls Tryz.prog 158 #[.int .i64 a,.pointer (some ⟨bx,0,none⟩),.pointer (some ⟨by',0,none⟩)] w fun e w'=>e = .returned (.bool (isL S choice a))/\Ext w w':=by
  rw [isL_eq ht h1 h2];have zx:=cell_lt hx;have zy:=cell_lt hy;have z1:=h.lt;have c0:=h.c0;have c1:=h.c1;have H:=hZ h;have HT:=hZ ht;clear h ht;have e1:IntKind.i64.wrap (choice+1)=choice+1:=IntWalk.i64_in _ (by omega);generalize hr1:Hp.rank S.order t=r1;generalize hr2:Hp.rank S.order (choice+1)=r2;have HR1:=hZ hr1;have HR2:=hZ hr2;clear hr1 hr2;go_enter Tryz.func158,Tryz.ntmps158
  go_wp2_with fail
  have pr6a:=fun u_ (h_:Ext w u_)=>(h_.cell zx 0).trans hx
  have pr6b:=fun u_ (h_:Ext w u_)=>(h_.cell zy 0).trans hy
  have pr6c:=fun u_ (h_:Ext w u_)=>(h_.cell z1 0).trans c0
  have pr6d:=fun u_ (h_:Ext w u_)=>(h_.cell z1 1).trans c1
  refine wp_region_seq (S:=fun W=>Ext w W) (R:=Ext) (by kernel_rfl) Ext.refl ?_ ?_
  . exact exx
  refine' tkL 0 ?_;refine' tkL 1 ?_;refine' tkL 2 ?_;refine' tkL 3 ?_;refine' tkL 4 ?_;refine' tkL 5 ?_;refine' tkC 6 (.int .i64 t) 76 (fun w hE=>tag_any (H.out.ext hE).c2 rfl H.out.le H.out.cap (H.out.ext hE).words HT.out) ?_;refine' tkC 7 (.int .i64 r1) 126 (fun w hE=>(HR1.out ▸ rank_any (H.out.ext hE).order (by omega) (by omega))) ?_;refine' tkL 8 ?_;refine' tkL 9 ?_;refine' tkL 10 ?_;refine' tkL 11 ?_;refine' tkL 12 ?_;refine' tkL 13 ?_;refine' tkC 14 (.int .i64 r2) 126 (fun w hE=>(HR2.out ▸ rank_any (H.out.ext hE).order (by omega) (by omega))) ?_;refine' tkL 15 ?_;refine' tkL 16 ?_;refine wpAnyR_done (by kernel_rfl) ?_ _;intro x1 _ Ex1;clear pr6a pr6b pr6c pr6d;go_wp2;go_returns;exact ⟨rfl,exx⟩
theorem isL_says {W:World} {b:Bool} {bx by':Nat} (h:HAt w d S) (hx:w.cell? ⟨bx,0,none⟩=some (.pointer (some ⟨d.hb,0,none⟩))) (hy:w.cell? ⟨by',0,none⟩=some (.int .i64 choice)) (hc1 : -1<=choice) (hc2:choice<=1000000)
    (hl:S.laters choice l=some b) (hW:Ext w W):SaysAll W 158 #[] #[.pointer (some ⟨bx,0,none⟩),.pointer (some ⟨by',0,none⟩)] l (isL S choice):=by
  intro j x hjx hall W' hW';obtain ⟨a,t,rfl,ht,h1,h2⟩:=(laters_spec hl).2 j x hjx hall;have E:=hW.trans hW';have:=checkNode1_any (h.ext E) ((E.cell (cell_lt hx) 0).trans hx) ((E.cell (cell_lt hy) 0).trans hy) hc1 hc2 ht h1 h2
  simpa using this
theorem has_says (h:HAt w d S) (hwf:∀ x ∈ l,-9223372036854775808<=x/\x<=9223372036854775807):SaysAll w 128 #[.pointer (some ⟨d.hb,0,none⟩)] #[] l S.has:=by
 intro j x hjx _ W hW
 have hb:=hwf x (List.mem_of_getElem? hjx)
 have:=isTaken_any (h.ext hW) (x:=x) rfl hb.1 hb.2
 simpa using this
theorem sizes_le (h:HAt w d S) {n:Int} (hn:Hp.rd S.sizes i=some n):1<=n/\n<=12:=h.pos n (List.mem_of_getElem? hn)
set_option maxHeartbeats 4000000 in
theorem checkNode_range (p:Value) (h:HAt w d S) (hc1 : -9223372036854775808<=choice) (hc2:choice<=9223372036854775807) (hr:Hp.within 0 (S.sizes.length-1) choice=false) :
    Calls Tryz.prog 108 #[.pointer (some ⟨d.hb,0,none⟩),.int .i64 choice,p] w fun e w'=>e = .returned (.int .i64 3)/\Ext w w':=by
  have hle:=h.sizes.le;have hcap:=h.sizes.cap;have H:=hZ h;have HR:=hZ hr;clear h hr;have e1:IntKind.i64.wrap ((S.sizes.length:Int)-1)=(S.sizes.length:Int)-1:=IntWalk.i64_in _ (by omega);go_enter Tryz.func108,Tryz.ntmps108;go_upto_region 4 with (go_at_call 72;refine (isMade_yes (H.out.ext (exx))).mono ?_;rintro e w1 ⟨rfl,hb1⟩;obtain ⟨hc1,hf1,hs1⟩:=hb1.cells;have hz1_0:w.heap.size < w1.heap.size:=(by have h:=hb1.le;(try simp at h);omega);have hc1_0:=hb1.cell (b:=w.heap.size) (by first | omega | (simp;done) | (simp;omega));have hf1_0:=hb1.frozen (b:=w.heap.size) (by first | omega | (simp;done) | (simp;omega));have hz1_1:w.heap.size+1 < w1.heap.size:=(by have h:=hb1.le;(try simp at h);omega);have hc1_1:=hb1.cell (b:=w.heap.size+1) (by first | omega | (simp;done) | (simp;omega));have hf1_1:=hb1.frozen (b:=w.heap.size+1) (by first | omega | (simp;done) | (simp;omega)))
  have N1:=hZ (H.out.ext (exx:Ext w w1));have c0:=N1.out.c0;have z0:=N1.out.lt;have ca:w1.cell? ⟨w.heap.size,0,none⟩=some (.pointer (some ⟨d.hb,0,none⟩)):=by rw [hc1_0];go_simp
  have cb:w1.cell? ⟨w.heap.size+1,0,none⟩=some (.int .i64 choice):=by rw [hc1_1];go_simp
  have pr7a:=fun u_ (h_:Ext w1 u_)=>(h_.cell z0 0).trans c0
  have pr7b:=fun u_ (h_:Ext w1 u_)=>(h_.cell hz1_0 0).trans ca
  have pr7c:=fun u_ (h_:Ext w1 u_)=>(h_.cell hz1_1 0).trans cb
  refine wp_region_seq (S:=fun W=>Ext w1 W) (R:=Ext) (by kernel_rfl) Ext.refl ?_ ?_
  . exact exx
  refine' tkL 0 ?_;refine' tkL 1 ?_;refine' tkL 2 ?_;refine' tkL 3 ?_;refine' tkL 4 ?_;refine' tkL 5 ?_;refine' tkL 6 ?_;refine' tkL 7 ?_;refine' tkC 8 (.bool false) 105 (fun w hE=>(HR.out ▸ within_any 0 ((S.sizes.length:Int)-1) choice _)) ?_;refine' tkL 9 ?_;refine' tkL 10 ?_;refine wpAnyR_done (by kernel_rfl) ?_ _;intro x1 _ Ex1;clear pr7a pr7b pr7c
  go_wp2_with fail
  go_returns;exact ⟨rfl,exx⟩
theorem within_nat {c:Int} (h:Hp.within 0 ((n:Int)-1) c=true):∃ i:Nat,c=i/\i < n:=by
 unfold Hp.within at h
 simp only [Bool.and_eq_true,decide_eq_true_eq] at h
 exact ⟨c.toNat,by omega,by omega⟩
set_option maxHeartbeats 8000000 in
theorem checkNode_any {e0:Int} (h:HAt w d S) (hs:SliceAt w p c l) (hc1 : -9223372036854775808<=choice) (hc2:choice<=9223372036854775807) (hr:S.checkNode choice l=some e0) :
    Calls Tryz.prog 108 #[.pointer (some ⟨d.hb,0,none⟩),.int .i64 choice,.slice p l.length c] w fun e w'=>e = .returned (.int .i64 e0)/\Ext w w':=by
  unfold Hp.Hs.checkNode at hr
  cases hw:Hp.within 0 ((S.sizes.length:Int)-1) choice with
  | false=>
   rw [if_pos hw] at hr
   cases hr
   exact checkNode_range _ h hc1 hc2 hw
  | true=>
   rw [if_neg (by rw [hw];simp)] at hr;obtain ⟨i,rfl,hi⟩:=within_nat hw;simp only [Option.bind_eq_bind,Option.bind_eq_some_iff,Int.toNat_natCast] at hr;obtain ⟨n,hn,hr⟩:=hr;have hle:=h.sizes.le;have hcap:=h.sizes.cap;have hle':=hs.le;have sm:=h.few;have hcap':=hs.cap;have hsz:=sizes_le h hn;obtain ⟨b,o,hsp,hbl,hcell⟩:=h.sizes.cells (by omega);have gi:=hcell i n hn;have HSP:=hZ hsp;have H:=hZ h;have HS:=hZ hs;have HW:=hZ hw;have HR:=hZ hr;clear h hs hw hr hn hcell hsp hc1 hc2;have e1:IntKind.i64.wrap ((S.sizes.length:Int)-1)=(S.sizes.length:Int)-1:=IntWalk.i64_in _ (by omega);have i1:(0:Int)<=(i:Int):=by omega
   have i2:(i:Int) < (S.sizes.length:Int):=by omega
   go_enter Tryz.func108,Tryz.ntmps108;go_upto_region 4 with (go_at_call 72;refine (isMade_yes (H.out.ext (exx))).mono ?_;rintro e w1 ⟨rfl,hb1⟩;obtain ⟨hc1,hf1,hs1⟩:=hb1.cells;have hz1_0:w.heap.size < w1.heap.size:=(by have h:=hb1.le;(try simp at h);omega);have hc1_0:=hb1.cell (b:=w.heap.size) (by first | omega | (simp;done) | (simp;omega));have hf1_0:=hb1.frozen (b:=w.heap.size) (by first | omega | (simp;done) | (simp;omega));have hz1_1:w.heap.size+1 < w1.heap.size:=(by have h:=hb1.le;(try simp at h);omega);have hc1_1:=hb1.cell (b:=w.heap.size+1) (by first | omega | (simp;done) | (simp;omega));have hf1_1:=hb1.frozen (b:=w.heap.size+1) (by first | omega | (simp;done) | (simp;omega)))
   have E1:Ext w w1:=exx;have N1:=hZ (H.out.ext E1);have c0:=N1.out.c0;rw [HSP.out] at c0;have z0:=N1.out.lt;have ca:w1.cell? ⟨w.heap.size,0,none⟩=some (.pointer (some ⟨d.hb,0,none⟩)):=by rw [hc1_0];go_simp
   have cb:w1.cell? ⟨w.heap.size+1,0,none⟩=some (.int .i64 i):=by rw [hc1_1];go_simp
   have zb:b < w1.heap.size:=Nat.lt_of_lt_of_le hbl E1.le;have gi':=(E1.cell hbl (o+i)).trans gi;have pr8a:=fun u_ (h_:Ext w1 u_)=>(h_.cell z0 0).trans c0
   have pr8b:=fun u_ (h_:Ext w1 u_)=>(h_.cell hz1_0 0).trans ca
   have pr8c:=fun u_ (h_:Ext w1 u_)=>(h_.cell hz1_1 0).trans cb
   refine wp_region_seq (S:=fun W=>Ext w1 W) (R:=Ext) (by kernel_rfl) Ext.refl ?_ ?_
   . exact exx
   refine' tkL 0 ?_;refine' tkL 1 ?_;refine' tkL 2 ?_;refine' tkL 3 ?_;refine' tkL 4 ?_;refine' tkL 5 ?_;refine' tkL 6 ?_;refine' tkL 7 ?_;refine' tkC 8 (.bool true) 105 (fun w hE=>(HW.out ▸ within_any 0 ((S.sizes.length:Int)-1) i _)) ?_;refine' tkL 9 ?_;refine' tkL 10 ?_;refine wpAnyR_done (by kernel_rfl) ?_ _;intro x1 _ Ex1;clear pr8a pr8b pr8c;go_upto_region 6 with (fail)
   have pr9a:=fun u_ (h_:Ext x1 u_)=>((Ext.trans Ex1 h_).cell z0 0).trans c0
   have pr9b:=fun u_ (h_:Ext x1 u_)=>((Ext.trans Ex1 h_).cell hz1_0 0).trans ca
   have pr9c:=fun u_ (h_:Ext x1 u_)=>((Ext.trans Ex1 h_).cell hz1_1 0).trans cb
   have pr9d:=fun u_ (h_:Ext x1 u_)=>((Ext.trans Ex1 h_).cell zb (o+i)).trans gi'
   refine wp_region_seq (S:=fun W=>Ext x1 W) (R:=Ext) (by kernel_rfl) Ext.refl ?_ ?_
   . exact exx
   refine' tkL 0 ?_;refine' tkL 1 ?_;refine' tkL 2 ?_;refine' tkL 3 ?_;refine' tkL 4 ?_;refine' tkL 5 ?_;refine' tkL 6 ?_;refine' tkL 7 ?_;refine' tkL 8 ?_;refine' tkL 9 ?_;refine' tkL 10 ?_;refine' tkL 11 ?_;refine wpAnyR_done (by kernel_rfl) ?_ _;intro x2 _ Ex2;clear pr9a pr9b pr9c pr9d;have E2:=E1.trans (Ex1.trans Ex2);have E12:=Ex1.trans Ex2;have hr:=HR.out
   by_cases hlen:(l.length:Int)=n
   case neg=>
    rw [if_pos hlen] at hr
    cases hr
    have t0:((l.length:Int) != n)=true:=by simpa using hlen
    clear hlen
    go_wp2_with fail
    go_returns;exact ⟨rfl,E2⟩
   case pos=>
    rw [if_neg (by rw [hlen];simp)] at hr;have t0:((l.length:Int) != n)=false:=by simpa using hlen
    have ca2:=(E12.cell hz1_0 0).trans ca;have cb2:=(E12.cell hz1_1 0).trans cb;have N2:=hZ (H.out.ext E2);have S2:=hZ (HS.out.ext E2)
    cases hh:l.all S.has with
    | false=>
     rw [if_pos hh] at hr
     cases hr
     have HH:=hZ hh;clear hlen hh
     go_wp2_with (go_at_call 124;refine (every_any (enters_of Tryz.func128 (by kernel_rfl) rfl) S2.out (has_says N2.out S2.out.wf) HH.out).mono ?_;rintro e w3 ⟨rfl,hb3⟩;obtain ⟨hc3,hf3,hs3⟩:=hb3.cells)
     go_returns;exact ⟨rfl,E2.trans hb3⟩
    | true=>
     rw [if_neg (by rw [hh];simp)] at hr;simp only [Option.bind_eq_some_iff] at hr;obtain ⟨lb,hlb,hr⟩:=hr;have HH:=hZ hh;have LB:=hZ hlb;have LA:=hZ (laters_spec hlb).1;clear hlen hh hlb;have CA2:=hZ ca2;have CB2:=hZ cb2
     cases lb with
     | false=>
      rw [if_pos rfl] at hr
      cases hr
      go_upto_region 10 with (go_at_call 124;refine (every_any (enters_of Tryz.func128 (by kernel_rfl) rfl) S2.out (has_says N2.out S2.out.wf) HH.out).mono ?_;rintro e w3 ⟨rfl,hb3⟩;obtain ⟨hc3,hf3,hs3⟩:=hb3.cells)
      go_wp2_with (go_at_call 124;refine (every_any (enters_of Tryz.func158 (by kernel_rfl) rfl) (S2.out.ext hb3) (isL_says N2.out CA2.out CB2.out (by omega) (by omega) LB.out hb3) LA.out).mono ?_;rintro e w4 ⟨rfl,hb4⟩;obtain ⟨hc4,hf4,hs4⟩:=hb4.cells)
      go_returns;exact ⟨rfl,E2.trans (hb3.trans hb4)⟩
     | true=>
      rw [if_neg (by simp)] at hr
      cases hr
      go_upto_region 10 with (go_at_call 124;refine (every_any (enters_of Tryz.func128 (by kernel_rfl) rfl) S2.out (has_says N2.out S2.out.wf) HH.out).mono ?_;rintro e w3 ⟨rfl,hb3⟩;obtain ⟨hc3,hf3,hs3⟩:=hb3.cells)
      go_wp2_with (go_at_call 124;refine (every_any (enters_of Tryz.func158 (by kernel_rfl) rfl) (S2.out.ext hb3) (isL_says N2.out CA2.out CB2.out (by omega) (by omega) LB.out hb3) LA.out).mono ?_;rintro e w4 ⟨rfl,hb4⟩;obtain ⟨hc4,hf4,hs4⟩:=hb4.cells)
      go_returns;exact ⟨rfl,E2.trans (hb3.trans hb4)⟩
theorem full_eq (a:Nat) (S:Hp.Hs):Hp.Hs.full (a,S)=((a:Int),err8 a,S):=by
 unfold Hp.Hs.full err8
 by_cases h:a=0 <;> simp [h]
def Added (d:Hd) (w:World) (r:Int × Int × Hp.Hs) (e:Ending) (w':World):Prop:=e = .returned (.tuple #[.int .i64 r.1,.int .i64 r.2.1])/\Now w w' d r.2.2
theorem SliceAt.one (w:World) (n:Int) (h1 : -9223372036854775808<=n) (h2:n<=9223372036854775807) (t:TypeId):SliceAt (w.alloc (.cells #[.int .i64 n] t)) (some ⟨w.heap.size,0,none⟩) 1 [n]:=by
 refine ⟨by simp,by omega,by simp;omega,fun _=>⟨w.heap.size,0,rfl,by simp,fun j x hx=>?_⟩⟩
 cases j with
 | zero=>
  have:n=x:=by simpa [Hp.rd] using hx
  subst this;have:=World.cell?_alloc_mark w #[.int .i64 n] t (0,0) 0;rw [this];rfl
 | succ j=>simp [Hp.rd] at hx
theorem HAt.own_lt (h:HAt w d S):∀ b ∈ d.own,b < w.heap.size:=by
 intro b hb
 simp [Hd.own] at hb
 rcases hb with rfl | rfl | rfl
 . exact h.lt
 . exact h.words.lt
 exact h.map.lt
set_option maxRecDepth 100000 in
set_option maxHeartbeats 4000000 in
theorem End_any {n:Int} {r:Int × Int × Hp.Hs} (h:HAt w d S) (hf:f < 256) (hn1 : -9223372036854775808<=n) (hn2:n<=9223372036854775807) (hr:S.end' f n=some r) :
    Calls Tryz.prog 43 #[.pointer (some ⟨d.hb,0,none⟩),.agg #[.int .u8 f,.int .i64 n]] w (Added d w r):=by
  have H:=hZ (Now.refl h);clear h;unfold Hp.Hs.end' at hr
  by_cases h1:(f:Int) > 4
  . rw [if_pos (Or.inl h1)] at hr
    cases hr
    go_enter Tryz.func43,Tryz.ntmps43
    go_wp2_with (go_at_call 72;refine (isMade_yes (H.out.ext (exx)).toHAt).mono ?_;rintro e w1 ⟨rfl,hb1⟩;obtain ⟨hc1,hf1,hs1⟩:=hb1.cells;have hz1_0:w.heap.size < w1.heap.size:=(by have h:=hb1.le;(try simp at h);omega);have hc1_0:=hb1.cell (b:=w.heap.size) (by first | omega | (simp;done) | (simp;omega));have hf1_0:=hb1.frozen (b:=w.heap.size) (by first | omega | (simp;done) | (simp;omega)))
    go_ret2
    exact ⟨rfl,H.out.ext (exx)⟩
  by_cases h2:(f:Int) > 0/\n ≠ 0
  . rw [if_pos (Or.inr (Or.inl h2))] at hr
    cases hr
    have t0:(n != 0)=true:=by simpa using h2.2
    have h3:=h2.1;clear h2;go_enter Tryz.func43,Tryz.ntmps43
    go_wp2_with (go_at_call 72;refine (isMade_yes (H.out.ext (exx)).toHAt).mono ?_;rintro e w1 ⟨rfl,hb1⟩;obtain ⟨hc1,hf1,hs1⟩:=hb1.cells;have hz1_0:w.heap.size < w1.heap.size:=(by have h:=hb1.le;(try simp at h);omega);have hc1_0:=hb1.cell (b:=w.heap.size) (by first | omega | (simp;done) | (simp;omega));have hf1_0:=hb1.frozen (b:=w.heap.size) (by first | omega | (simp;done) | (simp;omega)))
    go_ret2
    exact ⟨rfl,H.out.ext (exx)⟩
  cases hw:Hp.within (-9999) 9999 n with
  | false=>
   rw [if_pos (Or.inr (Or.inr hw))] at hr
   cases hr
   by_cases hf0:f=0
   . subst hf0;clear h1 h2;have HW:=hZ hw;clear hw;go_enter Tryz.func43,Tryz.ntmps43
     go_wp2_with (first
      | (go_at_call 72;refine (isMade_yes (H.out.ext (exx)).toHAt).mono ?_;rintro e w1 ⟨rfl,hb1⟩;obtain ⟨hc1,hf1,hs1⟩:=hb1.cells;have hz1_0:w.heap.size < w1.heap.size:=(by have h:=hb1.le;(try simp at h);omega);have hc1_0:=hb1.cell (b:=w.heap.size) (by first | omega | (simp;done) | (simp;omega));have hf1_0:=hb1.frozen (b:=w.heap.size) (by first | omega | (simp;done) | (simp;omega)))
      | (go_at_call 105;refine ((HW.out ▸ within_any (-9999) 9999 n _)).mono ?_;rintro e w2 ⟨rfl,hb2⟩;obtain ⟨hc2,hf2,hs2⟩:=hb2.cells))
     go_ret2
     exact ⟨rfl,H.out.ext (exx)⟩
   have:n=0:=by
    apply Classical.byContradiction;intro hne;exact h2 ⟨by omega,hne⟩
   subst this;simp [Hp.within] at hw
  | true=>
   rw [if_neg (by rw [hw];simp;exact ⟨by omega,fun hx=>by
    apply Classical.byContradiction;intro hne;exact h2 ⟨by omega,hne⟩⟩)] at hr
   simp only [Option.bind_eq_bind,Option.bind_eq_some_iff,Option.pure_def,Option.some.injEq] at hr;obtain ⟨⟨a,S'⟩,ha,rfl⟩:=hr;rw [full_eq];have HA:=hZ ha;have HW:=hZ hw;clear ha hw;have key:∀ w2,Ext w w2->Calls Tryz.prog 107 #[.pointer (some ⟨d.hb,0,none⟩),.int .i64 (20+f),.slice (some ⟨w2.heap.size,0,none⟩) 1 1] (w2.alloc (.cells #[.int .i64 n] 3)) (fun e w'=>e = .returned (.int .i64 a)/\Now w w' d S'):=by
    intro w2 E;have E2:Ext w (w2.alloc (.cells #[.int .i64 n] 3)):=E.alloc _;refine (add_any (H.out.ext E2).toHAt (SliceAt.one w2 n hn1 hn2 3) (by simp) (fun b o e=>?_) HA.out).mono ?_
    . cases e
      intro hm;have:=H.out.toHAt.own_lt _ hm;have:=E.le;omega
    rintro e w' ⟨rfl,h1,h2⟩;exact ⟨rfl,h1,(But.ofExt E2).trans h2⟩
   have KEY:=hZ key;clear key
   by_cases hf0:f=0
   . subst hf0;clear h1 h2;go_enter Tryz.func43,Tryz.ntmps43
     go_wp2_with (first
      | (go_at_call 72;refine (isMade_yes (H.out.ext (exx)).toHAt).mono ?_;rintro e w1 ⟨rfl,hb1⟩;obtain ⟨hc1,hf1,hs1⟩:=hb1.cells;have hz1_0:w.heap.size < w1.heap.size:=(by have h:=hb1.le;(try simp at h);omega);have hc1_0:=hb1.cell (b:=w.heap.size) (by first | omega | (simp;done) | (simp;omega));have hf1_0:=hb1.frozen (b:=w.heap.size) (by first | omega | (simp;done) | (simp;omega)))
      | (go_at_call 105;refine ((HW.out ▸ within_any (-9999) 9999 n _)).mono ?_;rintro e w2 ⟨rfl,hb2⟩;obtain ⟨hc2,hf2,hs2⟩:=hb2.cells)
      | (go_at_call 107;refine (KEY.out _ (exx)).mono ?_;rintro e w3 ⟨rfl,N3⟩)
      | (go_at_call 106;refine (full_any a _).mono ?_;rintro e w4 ⟨rfl,hb4⟩;obtain ⟨hc4,hf4,hs4⟩:=hb4.cells))
     go_ret2
     exact ⟨rfl,N3.ext hb4⟩
   have hn0:n=0:=by
    apply Classical.byContradiction;intro hne;exact h2 ⟨by omega,hne⟩
   subst hn0;have q1:0 < (f:Int):=by omega
   have q2:(f:Int)<=4:=by omega
   clear h1 h2 hf0 hn1 hn2 HA;go_enter Tryz.func43,Tryz.ntmps43
   go_wp2_with (first
    | (go_at_call 72;refine (isMade_yes (H.out.ext (exx)).toHAt).mono ?_;rintro e w1 ⟨rfl,hb1⟩;obtain ⟨hc1,hf1,hs1⟩:=hb1.cells;have hz1_0:w.heap.size < w1.heap.size:=(by have h:=hb1.le;(try simp at h);omega);have hc1_0:=hb1.cell (b:=w.heap.size) (by first | omega | (simp;done) | (simp;omega));have hf1_0:=hb1.frozen (b:=w.heap.size) (by first | omega | (simp;done) | (simp;omega)))
    | (go_at_call 105;refine ((HW.out ▸ within_any (-9999) 9999 0 _)).mono ?_;rintro e w2 ⟨rfl,hb2⟩;obtain ⟨hc2,hf2,hs2⟩:=hb2.cells)
    | (go_at_call 107;refine (KEY.out _ (exx)).mono ?_;rintro e w3 ⟨rfl,N3⟩)
    | (go_at_call 106;refine (full_any a _).mono ?_;rintro e w4 ⟨rfl,hb4⟩;obtain ⟨hc4,hf4,hs4⟩:=hb4.cells))
   go_ret2
   exact ⟨rfl,N3.ext hb4⟩
theorem check_zero (h:S.checkNode choice l=some 0):∃ (i:Nat) (n:Int),choice=i/\i < S.sizes.length/\Hp.rd S.sizes i=some n/\(l.length:Int)=n:=by
 unfold Hp.Hs.checkNode at h
 split at h
 . cases h
 rename_i hw
 obtain ⟨i,rfl,hi⟩:=within_nat (by simpa using hw)
 simp only [Option.bind_eq_bind,Option.bind_eq_some_iff,Int.toNat_natCast] at h
 obtain ⟨n,hn,h⟩:=h
 split at h
 . cases h
 rename_i hl
 exact ⟨i,n,rfl,hi,hn,by simpa using hl⟩
set_option maxRecDepth 100000 in
set_option maxHeartbeats 4000000 in
theorem Make_any {r:Int × Int × Hp.Hs} (h:HAt w d S) (hs:SliceAt w p c l) (far:∀ b o,p=some ⟨b,o,none⟩->b ∉ d.own)
    (hc1 : -9223372036854775808<=choice) (hc2:choice<=9223372036854775807) (hr:S.make choice l=some r) :
    Calls Tryz.prog 44 #[.pointer (some ⟨d.hb,0,none⟩),.int .i64 choice,.slice p l.length c] w (Added d w r):=by
  unfold Hp.Hs.make at hr;simp only [Option.bind_eq_bind,Option.bind_eq_some_iff] at hr;obtain ⟨e0,he,hr⟩:=hr;have H:=hZ (Now.refl h);have HS:=hZ hs;have HE:=hZ he
  by_cases h0:e0=0
  case neg=>
   rw [if_pos h0] at hr
   cases hr
   have t0:(e0 != 0)=true:=by simpa using h0
   clear h hs he h0 far;go_enter Tryz.func44,Tryz.ntmps44
   go_wp2_with (go_at_call 108;refine (checkNode_any H.out.toHAt HS.out hc1 hc2 HE.out).mono ?_;rintro e w1 ⟨rfl,hb1⟩;obtain ⟨hc1,hf1,hs1⟩:=hb1.cells)
   go_ret2
   exact ⟨rfl,H.out.ext hb1⟩
  case pos=>
   subst h0;rw [if_neg (by simp)] at hr;obtain ⟨i,n,rfl,hi,hn,hl⟩:=check_zero he;have hsz:=sizes_le h hn;have h0l:0 < l.length:=by omega
   have hfew:=h.few;obtain ⟨y,hy⟩:=rd_get h0l;obtain ⟨b,o,hp,hb,hcell⟩:=hs.cells h0l;have g:=hcell 0 y hy;simp only [Nat.add_zero] at g;have hle:=hs.le;have hcap:=hs.cap;have FAR:=hZ far;subst hp
   cases ha:Hp.Hs.alike l with
   | true=>
    rw [if_pos ha] at hr;simp only [Option.bind_eq_some_iff] at hr;obtain ⟨y',hy',hr⟩:=hr
    cases hr
    have:y'=y:=by
     cases l with
     | nil=>cases hy
     | cons a r=>
      have e1:a=y':=by simpa using hy'
      have e2:a=y:=by simpa [Hp.rd] using hy
      rw [<- e1,e2]
    subst this;have HA:=hZ ha;clear h hs he hy hy' far ha hn hl hcell;have L0:=hZ h0l;have z:=hZ hb;go_enter Tryz.func44,Tryz.ntmps44
    go_wp2_with (first
     | (go_at_call 108;refine (checkNode_any H.out.toHAt HS.out hc1 hc2 HE.out).mono ?_;rintro e w1 ⟨rfl,hb1⟩;obtain ⟨hc1,hf1,hs1⟩:=hb1.cells)
     | (go_at_call 109;refine (alike_any (HS.out.ext hb1) L0.out HA.out).mono ?_;rintro e w2 ⟨rfl,hb2⟩;obtain ⟨hc2,hf2,hs2⟩:=hb2.cells;have g2:=((hb1.trans hb2).cell z.out o).trans g))
    go_ret2
    exact ⟨rfl,(H.out.ext hb1).ext hb2⟩
   | false=>
    rw [if_neg (by rw [ha];simp)] at hr;simp only [Option.bind_eq_some_iff,Option.pure_def,Option.some.injEq] at hr;obtain ⟨⟨a,S'⟩,had,rfl⟩:=hr;rw [full_eq];have HA:=hZ ha;have HAD:=hZ had;have L0:=hZ h0l;clear h hs he hy far ha hn hl hcell had g h0l;go_enter Tryz.func44,Tryz.ntmps44
    go_wp2_with (first
     | (go_at_call 108;refine (checkNode_any H.out.toHAt HS.out hc1 hc2 HE.out).mono ?_;rintro e w1 ⟨rfl,hb1⟩;obtain ⟨hc1,hf1,hs1⟩:=hb1.cells)
     | (go_at_call 109;refine (alike_any (HS.out.ext hb1) L0.out HA.out).mono ?_;rintro e w2 ⟨rfl,hb2⟩;obtain ⟨hc2,hf2,hs2⟩:=hb2.cells)
     | (go_at_call 107;refine (add_any ((H.out.ext hb1).ext hb2).toHAt ((HS.out.ext hb1).ext hb2) L0.out FAR.out HAD.out).mono ?_;rintro e w3 ⟨rfl,hA3,hB3⟩)
     | (go_at_call 106;refine (full_any a _).mono ?_;rintro e w4 ⟨rfl,hb4⟩;obtain ⟨hc4,hf4,hs4⟩:=hb4.cells))
    go_ret2
    exact ⟨rfl,(Now.mk hA3 ((But.ofExt (hb1.trans hb2)).trans hB3)).ext hb4⟩
set_option maxRecDepth 100000 in
set_option maxHeartbeats 4000000 in
theorem Find_any {r:Int × Int} (h:HAt w d S) (hs:SliceAt w p c l) (far:∀ b o,p=some ⟨b,o,none⟩->b ∉ d.own)
    (hc1 : -9223372036854775808<=choice) (hc2:choice<=9223372036854775807) (hr:S.find choice l=some r) :
    Calls Tryz.prog 45 #[.pointer (some ⟨d.hb,0,none⟩),.int .i64 choice,.slice p l.length c] w fun e w'=>e = .returned (.tuple #[.int .i64 r.1,.int .i64 r.2])/\Ext w w':=by
  unfold Hp.Hs.find at hr;simp only [Option.bind_eq_bind,Option.bind_eq_some_iff] at hr;obtain ⟨e0,he,hr⟩:=hr;have H:=hZ (Now.refl h);have HS:=hZ hs;have HE:=hZ he
  by_cases h0:e0=0
  case neg=>
   rw [if_pos h0] at hr
   cases hr
   have t0:(e0 != 0)=true:=by simpa using h0
   clear h hs he h0 far;go_enter Tryz.func45,Tryz.ntmps45
   go_wp2_with (go_at_call 108;refine (checkNode_any H.out.toHAt HS.out hc1 hc2 HE.out).mono ?_;rintro e w1 ⟨rfl,hb1⟩;obtain ⟨hc1,hf1,hs1⟩:=hb1.cells)
   go_ret2
   exact ⟨rfl,hb1⟩
  case pos=>
   subst h0;rw [if_neg (by simp)] at hr;obtain ⟨i,n,rfl,hi,hn,hl⟩:=check_zero he;have hsz:=sizes_le h hn;have h0l:0 < l.length:=by omega
   have hfew:=h.few;obtain ⟨y,hy⟩:=rd_get h0l;obtain ⟨b,o,hp,hb,hcell⟩:=hs.cells h0l;have g:=hcell 0 y hy;simp only [Nat.add_zero] at g;have hle:=hs.le;have hcap:=hs.cap;have FAR:=hZ far;subst hp
   cases ha:Hp.Hs.alike l with
   | true=>
    rw [if_pos ha] at hr;simp only [Option.bind_eq_some_iff] at hr;obtain ⟨y',hy',hr⟩:=hr
    cases hr
    have:y'=y:=by
     cases l with
     | nil=>cases hy
     | cons a r=>
      have e1:a=y':=by simpa using hy'
      have e2:a=y:=by simpa [Hp.rd] using hy
      rw [<- e1,e2]
    subst this;have HA:=hZ ha;clear h hs he hy hy' far ha hn hl hcell;have L0:=hZ h0l;have z:=hZ hb;go_enter Tryz.func45,Tryz.ntmps45
    go_wp2_with (first
     | (go_at_call 108;refine (checkNode_any H.out.toHAt HS.out hc1 hc2 HE.out).mono ?_;rintro e w1 ⟨rfl,hb1⟩;obtain ⟨hc1,hf1,hs1⟩:=hb1.cells)
     | (go_at_call 109;refine (alike_any (HS.out.ext hb1) L0.out HA.out).mono ?_;rintro e w2 ⟨rfl,hb2⟩;obtain ⟨hc2,hf2,hs2⟩:=hb2.cells;have g2:=((hb1.trans hb2).cell z.out o).trans g))
    go_ret2
    exact ⟨rfl,hb1.trans hb2⟩
   | false=>
    rw [if_neg (by rw [ha];simp)] at hr;simp only [Option.bind_eq_some_iff] at hr;obtain ⟨a,hlk,hr⟩:=hr;have HA:=hZ ha;have HLK:=hZ hlk;have L0:=hZ h0l;clear h hs he hy far ha hn hl hcell hlk g h0l
    by_cases ha0:a=0
    . subst ha0;rw [if_pos rfl] at hr
      cases hr
      go_enter Tryz.func45,Tryz.ntmps45
      go_wp2_with (first
       | (go_at_call 108;refine (checkNode_any H.out.toHAt HS.out hc1 hc2 HE.out).mono ?_;rintro e w1 ⟨rfl,hb1⟩;obtain ⟨hc1,hf1,hs1⟩:=hb1.cells)
       | (go_at_call 109;refine (alike_any (HS.out.ext hb1) L0.out HA.out).mono ?_;rintro e w2 ⟨rfl,hb2⟩;obtain ⟨hc2,hf2,hs2⟩:=hb2.cells)
       | (go_at_call 110;refine (look_any ((H.out.ext hb1).ext hb2).toHAt ((HS.out.ext hb1).ext hb2) HLK.out).mono ?_;rintro e w3 ⟨rfl,hb3⟩;obtain ⟨hc3,hf3,hs3⟩:=hb3.cells))
      go_ret2
      exact ⟨rfl,(hb1.trans hb2).trans hb3⟩
    rw [if_neg ha0] at hr
    cases hr
    have t0:((a:Int) == 0)=false:=by simpa using ha0
    clear ha0;go_enter Tryz.func45,Tryz.ntmps45
    go_wp2_with (first
     | (go_at_call 108;refine (checkNode_any H.out.toHAt HS.out hc1 hc2 HE.out).mono ?_;rintro e w1 ⟨rfl,hb1⟩;obtain ⟨hc1,hf1,hs1⟩:=hb1.cells)
     | (go_at_call 109;refine (alike_any (HS.out.ext hb1) L0.out HA.out).mono ?_;rintro e w2 ⟨rfl,hb2⟩;obtain ⟨hc2,hf2,hs2⟩:=hb2.cells)
     | (go_at_call 110;refine (look_any ((H.out.ext hb1).ext hb2).toHAt ((HS.out.ext hb1).ext hb2) HLK.out).mono ?_;rintro e w3 ⟨rfl,hb3⟩;obtain ⟨hc3,hf3,hs3⟩:=hb3.cells))
    go_ret2
    exact ⟨rfl,(hb1.trans hb2).trans hb3⟩
def Gives {α:Type} (F:Fence) (n:Nat) (P:Program) (g:Nat) (first:Array Value) (encs:α->Array Value) (K:World->Prop) (L:List α):Prop:=
 ∀ (l:Nat) (J:List α->World->Prop) (W:World),(∀ pre W1,J pre W1->K W1)->(∀ pre W1 W2,J pre W1->Ext W1 W2->J pre W2) ->
  (∀ pre x r W1,L=pre ++ x :: r->J pre W1->YieldAt F (n-1) P l (encs x) W1 fun e W'=>e = .returned (.bool true)/\J (pre ++ [x]) W')->J [] W ->
  CallsIn F n P g (first ++ #[.func (.yield l) #[] #[]]) W fun e W'=>(∃ v,e = .returned v)/\J L W'
structure Rest (B:Nat) (W W':World):Prop where
 size:W.heap.size<=W'.heap.size
 same:∀ k,B<=k->k < W.heap.size->W'.heap[k]? = W.heap[k]?
theorem Rest.refl (B:Nat) (W:World):Rest B W W:=⟨Nat.le_refl _,fun _ _ _=>rfl⟩
theorem Rest.trans {a b c:World} (h:Rest B a b) (k:Rest B b c):Rest B a c:=
 ⟨Nat.le_trans h.size k.size,fun i hi hl=>(k.same i hi (Nat.lt_of_lt_of_le hl h.size)).trans (h.same i hi hl)⟩
theorem Rest.ext {a b c:World} (h:Rest B a b) (k:Ext b c):Rest B a c:=h.trans ⟨k.le,fun i _ hl=>k.block i hl⟩
theorem Rest.setCell {a b:World} (h:Rest B a b) {p:Addr} (hp:p.block < B) (v:Value):Rest B a (b.setCell p v):=
 ⟨by simpa [World.setCell] using h.size,fun k hk hl=>by rw [Below.heap_setCell _ _ _ _ (by omega)];exact h.same k hk hl⟩
theorem below_putObj {W:World} (o:Obj) (hb:B<=b):Below B W (W.putObj b o):=
 ⟨rfl,rfl,rfl,by simp,fun k hk=>World.putObj_heap_other (by omega)⟩
variable {F:Fence} {n:Nat} {P:Program}
theorem wpIn_bound {α:Type} {g:Operand} {ps:Array Tmp} {assign body:Code} {Q:Exit->Act->World->Prop} {a:Act} 
    (hro:F.round=none) (h1:1<=n) {gf:Nat} {first:Array Value} (hg:a.eval g = .func (.func gf) first #[]) (hFg:F.fn gf) (eg:∀ args w,(callFunc gf args).run P w = .ok (.enter gf args) w)
    {encs:α->Array Value} {K:World->Prop} {L:List α} (hseq:Gives F (n-1) P gf first encs K L) (hps:∀ x,(encs x).size=ps.size)
    (I:List α->World->Prop) (hI:∀ pre W W',I pre W->w.heap.size<=W.heap.size->Below w.heap.size W W'->I pre W') (hK:∀ pre W,I pre W->K W) (h0:I [] w) (a₁:α->Act)
    (hassign:∀ (l:Nat) (x:α) (W:World) (G:Act->World->Prop),G (a₁ x) W ->
     assign.wpIn (F.inRound l) (n-1-1) P (Exit.then G (fun _ _ _=>False)) { tmps:=(ps.zip (encs x)).foldl (fun t (p,v)=>t.setIfInBounds p v) a.tmps,defers:=[] } W)
    (hbody:∀ (l:Nat) (pre:List α) (x:α) (r:List α) (W:World),L=pre ++ x :: r->I pre W->w.heap.size<=W.heap.size ->
     body.wpIn (F.inRound l) (n-1-1) P (fun e _ W'=>e = .normal/\Rest w.heap.size W W'/\I (pre ++ [x]) W') (a₁ x) W)
    (hdone:∀ (W:World),I L W->w.heap.size<=W.heap.size->W.heap[w.heap.size]? = some (.deferred (some []))->Q .normal { a with defers:={ target:=.collected w.heap.size,args:=#[] } :: a.defers } W) :
    (Code.rangeFunc g ps assign body).wpIn F n P Q a w:=by
  refine wpIn_rangeFunc fun fn hfn=>?_
  rw [hro];obtain ⟨rec,hrec⟩:∃ rec:LoopState->Option Code->Loop,rec=fun st pe=>{ state:=st,pending:=pe,fn,tmps:=a.tmps,params:=ps,assign,body,defers:=w.heap.size }:=⟨_,rfl⟩
  obtain ⟨W1,hW1⟩:∃ W1,(w.alloc (.deferred (some []))).alloc (.loop (rec .ready none))=W1:=⟨_,rfl⟩
  have hE1:Below w.heap.size w W1:=by
   rw [<- hW1];exact ((Below.refl _ w).alloc (Nat.le_refl _) _).alloc (by simp) _
  have hz1:W1.heap.size=w.heap.size+2:=by rw [<- hW1];simp
  have hL1:W1.heap[w.heap.size+1]? = some (.loop (rec .ready none)):=by
   rw [<- hW1];have:=World.alloc_heap_new (w.alloc (.deferred (some []))) (.loop (rec .ready none))
   rwa [World.size_alloc] at this
  have hK1:W1.heap[w.heap.size]? = some (.deferred (some [])):=by
   rw [<- hW1];exact (Below.heap_alloc _ _ _ (by simp)).trans (World.alloc_heap_new w _)
  refine ⟨w.heap.size+1,[{ target:=.collected w.heap.size,args:=#[] }],W1,{ target:=.fn (.func gf) #[],args:=first ++ #[.func (.yield (w.heap.size+1)) #[] #[]] },W1,gf,
   first ++ #[.func (.yield (w.heap.size+1)) #[] #[]],W1, ?_, ?_, ?_, ?_,fun _=>h1, ?_⟩
  . rw [<- hW1,hrec];exact run_enterLoop_outer _ _ _ _ _
  . simp only [resolve,hg];simp [go_sem]
  . intro f' hf';simp [Target.leads] at hf';subst hf';exact hFg
  . simp [invoke,go_sem,eg]
  refine (hseq (w.heap.size+1)
   (fun pre W=>I pre W/\w.heap.size+2<=W.heap.size/\W.heap[w.heap.size+1]? = some (.loop (rec .ready none))/\W.heap[w.heap.size]? = some (.deferred (some []))) W1
   (fun pre W h=>hK pre W h.1)
   (fun pre A B h k=>⟨hI pre A B h.1 (by omega) (Below.mono k (by omega)),Nat.le_trans h.2.1 k.le,(k.block _ (by omega)).trans h.2.2.1,(k.block _ (by omega)).trans h.2.2.2⟩)
   ?_ ⟨hI _ _ _ h0 (Nat.le_refl _) hE1,by omega,hL1,hK1⟩).mono ?_
  . rintro pre x r W hLx ⟨hi,hsz,hl,hk⟩;have hy:=run_yield (P:=P) (args:=encs x) hl (by rw [hrec];exact hps x);rw [hrec] at hy;refine ⟨fn,_,assign,body,hy,roundIn_of_wpIn hfn (hassign _ x W _ ⟨_,run_beginRound hl (by rw [hrec]), ?_⟩)⟩;have hl2:(W.putObj (w.heap.size+1) (.loop { rec .ready none with state:=.busy })).heap[w.heap.size+1]? = some (.loop { rec .ready none with state:=.busy }):=World.putObj_heap_same (by omega);have hk2:(W.putObj (w.heap.size+1) (.loop { rec .ready none with state:=.busy })).heap[w.heap.size]? = some (.deferred (some [])):=(World.putObj_heap_other (by omega)).trans hk;refine wpIn_mono (hbody _ pre x r _ hLx (hI _ _ _ hi (by omega) (below_putObj _ (by omega))) (by simp;omega)) ?_;rintro e a3 W3 ⟨rfl,hr3,hi3⟩;have hs3:=hr3.size;simp only [World.putObj_size] at hs3;have hl3:=(hr3.same (w.heap.size+1) (by omega) (by simp;omega)).trans hl2;have hk3:=(hr3.same w.heap.size (by omega) (by simp;omega)).trans hk2;have hend:=run_endRound (P:=P) none hl3;simp only [Option.isNone_none,if_true] at hend;refine ⟨_,_,hend,rfl,hI _ _ _ hi3 (by omega) (below_putObj (b:=w.heap.size+1) _ (by omega)), ?_, ?_, ?_⟩
    . simp only [World.putObj_size];omega
    . have:=World.putObj_heap_same (w:=W3) (r:=w.heap.size+1) (o:=.loop (rec .ready none)) (by omega);rw [hrec] at this ⊢;exact this
    exact (World.putObj_heap_other (w:=W3) (r:=w.heap.size+1) (k:=w.heap.size) (by omega)).trans hk3
  rintro e W2 ⟨⟨v,rfl⟩,hi,hsz,hl,hk⟩;have hend:=run_endLoop (P:=P) hl (by rw [hrec];simp);rw [hrec] at hend;exact ⟨none,_,hend,hdone _ (hI _ _ _ hi (by omega) (below_putObj _ (by omega))) (by simp;omega) ((World.putObj_heap_other (by omega)).trans hk)⟩
end Go.Proofs.YtdokmmhjmclmnaaGreat
