/-
  Part 27 of a proof: RegSt RP9 RP10 RP11 RP12a.
-/
import Derived.Test.YtdokmmhjmclmnaaGreatMS05
import Derived.Test.YtdokmmhjmclmnaaGreatMS07
import Derived.Test.YtdokmmhjmclmnaaGreatMS09
import Derived.Test.YtdokmmhjmclmnaaGreatMS18
import Derived.Test.YtdokmmhjmclmnaaGreatMS25
import Derived.Test.YtdokmmhjmclmnaaGreatMS26
set_option linter.unusedSimpArgs false
set_option linter.unusedVariables false
set_option linter.unusedSectionVars false
set_option linter.unnecessarySimpa false
namespace Go.Proofs.YtdokmmhjmclmnaaGreat
variable {W' w w' w0:World} {B a b base c ca cap f g i j k k1 k2 lb n oc qc sb sc:Nat} {choice e t x:Int} {A V W fs l o z:List Int} {D T Y:List Nat} {op p p1 p2 pa q sp:Option Addr} {d:Hd} {S S':Hp.Hs} {r:Rd} {L:List Hp.Tl} {M:List (Nat × Int)} {s s' s1:Hp.Sc} {acts:List Hp.Act'} {c0 c1:Value}
open Go
section
variable {P:Program} {ops:Array Oper} {Q:Exit->Act->World->Prop} {md:Region.Mode} {S:World->Prop}
inductive PlanS (P:Program) (ops:Array Oper) (Q:Exit->Act->World->Prop) (S:World->Prop):List Oper->List Bool->Act->World->Prop
 | done {a:Act} {w:World} (h:Q .normal a w):PlanS P ops Q S [] [] a w
 | take {o:Oper} {v:Value} {l:List Oper} {r:List Bool} {a:Act} {w:World} (hy:YieldsOn P ops S Eq o v a) (h:PlanS P ops Q S l r (a.put o.dst v) w):PlanS P ops Q S (o :: l) (false :: r) a w
 | put {o:Oper} {l:List Oper} {r:List Bool} {a:Act} {w:World} (w':World) (hw:Region.wanted o (yielded ops a.tmps)=true) (hrun:(execOp a.eval o).run P w = .ok .skip w') (hS:S w') (h:PlanS P ops Q S l r (a.put o.dst undef) w'):PlanS P ops Q S (o :: l) (true :: r) a w
theorem PlanS.anyR (hs:Region.noSelect ops=true) (hQ:∀ c a d v w,Q (.panic c) (Act.put a d v) w->Q (.panic c) a w) {l:List Oper} {pl:List Bool} {a:Act} (h:PlanS P ops Q S l pl a w) :
    ∀ {k:Nat} {listed:Array Bool},(∀ j:Nat,l[j]? = ops[k+j]?)->Upto ops k listed->planL md ops l pl k=true->wpAnyR P md ops Q S Eq l.length listed a w:=by
  induction h with
  | done h=>
   intro k listed hl hu _;refine wpAnyR_done ?_ (fun w' e _=>e ▸ h) _;refine List.eq_nil_iff_forall_not_mem.2 fun j hj=>?_
   obtain ⟨h1,o,h2,_⟩:=mem_ready.1 hj;have hjs:=(Array.getElem?_eq_some_iff.1 h2).1;rw [hu.at_ j _ hjs] at h1;have h1:¬ j < k:=by simpa using h1
   have:=hl (j-k);rw [show k+(j-k)=j by omega,h2] at this;simp at this
  | @take o v l r a w hy _ ih=>
   intro k listed hl hu hb;simp only [planL,Bool.and_eq_true] at hb;have hi:ops[k]? = some o:=by simpa using (hl 0).symm
   have hl':∀ j:Nat,l[j]? = ops[k+1+j]? := fun j=>by have:=hl (j+1);rw [show k+(j+1)=k+1+j by omega] at this;simpa using this
   refine wpAnyR_first (fun _=>rfl) (fun _ _ _ h k=>h.trans k) hi (Region.noSelect_spec hs) (fun c a w h=>hQ c a _ _ w h) _ listed a w (fun j oj hoj hne hun hno=>?_) (stepOk_ready hi hu hb.1) hy (ih hl' hu.set hb.2);have hjs:=(Array.getElem?_eq_some_iff.1 hoj).1;rw [hu.at_ j _ hjs] at hun;have hun:¬ j < k:=by simpa using hun
   have hm:oj ∈ l:=by
    refine List.mem_of_getElem? (i:=j-(k+1)) ?_;rw [hl',show k+1+(j-(k+1))=j by omega];exact hoj
   have h1:=hb.1;simp only [stepOk,Bool.and_eq_true,Bool.false_eq_true,if_false] at h1;have h2:=List.all_eq_true.1 h1.2 oj hm;simp only [Bool.or_eq_true] at h2
   rcases h2 with h2 | h2
   . obtain ⟨e,he,h3⟩:=any_mem h2;simp only [Bool.and_eq_true,beq_iff_eq] at h3;exact absurd h3.2 (hno e he h3.1)
   exact h2
  | @put o l r a w w1 hw hrun hS _ ih=>
   intro k listed hl hu hb;simp only [planL,Bool.and_eq_true] at hb;have hi:ops[k]? = some o:=by simpa using (hl 0).symm
   have hl':∀ j:Nat,l[j]? = ops[k+1+j]? := fun j=>by have:=hl (j+1);rw [show k+(j+1)=k+1+j by omega] at this;simpa using this
   have hr0:=stepOk_ready hi hu hb.1;have hr:∀ j ∈ Region.ready md ops listed,j=k:=fun j hj=>by
    obtain ⟨hun,oj,hoj,hall⟩:=mem_ready.1 hj;have hjs:=(Array.getElem?_eq_some_iff.1 hoj).1;rw [hu.at_ j _ hjs] at hun;have hun:¬ j < k:=by simpa using hun
    apply Classical.byContradiction;intro hne;have hm:oj ∈ l:=by
     refine List.mem_of_getElem? (i:=j-(k+1)) ?_;rw [hl',show k+1+(j-(k+1))=j by omega];exact hoj
    have h1:=hb.1;simp only [stepOk,Bool.and_eq_true,if_true] at h1;obtain ⟨e,he,h3⟩:=any_mem (List.all_eq_true.1 h1.2 oj hm);simp only [Bool.and_eq_true,decide_eq_true_eq] at h3;have h4:=hall e he h3.1
    rcases Nat.lt_or_ge e.on ops.size with h5 | h5
    . rw [hu.at_ e.on _ h5] at h4;have h4:e.on < k:=by simpa using h4
      omega
    have:listed.size<=e.on:=by rw [hu.size];exact h5
    simp [Array.getD,show ¬ e.on < listed.size by omega] at h4
   intro w' r s;subst r;refine ⟨fun e=>(by rw [e] at hr0;cases hr0),fun j hj=>?_⟩
   obtain rfl:j=k:=hr j hj;unfold Go.wpOp;simp only [hi];rw [if_pos hw];refine .inl ?_;unfold Oper.wp;rw [hrun];exact ⟨hS,ih hl' hu.set hb.2⟩
theorem wp_region_stores {S:World->Prop} {id:Nat} {l:List Oper} {a:Act} (pl:List Bool) (hm:P.follows .mixedOrders=true) (hs:Region.noSelect l.toArray=true)
    (hQ:∀ c a d v w,Q (.panic c) (Act.put a d v) w->Q (.panic c) a w) (hb:planL .any l.toArray l pl 0=true) (hS:S w.drew)
    (h:∀ ops,ops=l.toArray->PlanS P ops Q S l pl a w.drew):(Code.region id l.toArray true).wp P Q a w:=by
  refine wp_region_seq hm (fun _=>rfl) hS ?_;exact (h _ rfl).anyR hs hQ (k:=0) (fun j=>by simp) ⟨by simp,fun j d hj=>by
   have:j < l.length:=by simpa using hj
   simp [Array.getD,this]⟩ hb
end
section
variable {P:Program} {ops L:Array Oper} {Q:Exit->Act->World->Prop} {S:World->Prop} {o:Oper} {v:Value} {l:List Oper} {r:List Bool} {a:Act} {w:World}
theorem tkT (hops:RowKit.Hid (ops=L)) (hy:∀ w,S w->(execOp a.eval o).run P w = .ok (.value v) w) (h:PlanS P ops Q S l r (a.put o.dst v) w) (hw:Region.wanted o (yielded L a.tmps)=true:=by rfl):PlanS P ops Q S (o :: l) (false :: r) a w:=PlanS.take (Or.inl (Or.inl ⟨by rw [hops.out];exact hw,hy⟩)) h
theorem tkS {q:Prop} (hops:RowKit.Hid (ops=L)) (h:q) (hy:∀ w,S w->(execOp a.eval o).run P w = .ok (.value v) w:=by intro w q;go_simp;try with_reducible rfl) (e:PlanS P ops Q S l r (a.put o.dst v) w=q:=by first | (simp only [List.getElem_toArray,List.getElem_cons_zero,List.getElem_cons_succ,Act.put,List.setIfInBounds_toArray,List.set_cons_zero,List.set_cons_succ];exact rfl) | exact rfl) (hw:Region.wanted o (yielded L a.tmps)=true:=by rfl):PlanS P ops Q S (o :: l) (false :: r) a w:=PlanS.take (Or.inl (Or.inl ⟨by rw [hops.out];exact hw,hy⟩)) (e.mpr h)
end
open Go.RowKit Go.Maps
set_option maxHeartbeats 2000000 in
theorem rField_at (h:RAt w r S) (hz:Hp.Fr S.sizes) (ha:a+Hp.wz S.sizes (Hp.ow S.words a)<=S.words.length) (ht:Hp.okTag S.sizes (Hp.ow S.words a)=true) (hhi:S.words.length<=100000) :
    Calls Tryz.prog 88 #[.pointer (some ⟨r.rb,0,none⟩),.int .i64 a] w fun e w'=>e = .returned (.slice (some ⟨r.gb,r.go+(a+4),none⟩) (Hp.wz S.sizes (Hp.ow S.words a)-4) (r.wc-(a+4)))/\Ext w w':=by
  have hwz:=Hp.wz_ok hz ht;have hle:=h.words.le;have hcap:=h.words.cap;have LONG:=hZ (fun W (hW:Ext w W)=>rLong_cell (h.ext hW) hz (a:=a) (by omega) ht);have c2:=h.c2;have hlt:=h.lt;clear h hz ht;generalize S.words.length=n at *;generalize hk:Hp.wz S.sizes (Hp.ow S.words a)=k at *;clear hk;have s1:IntKind.i64.wrap ((a:Int)+4)=(a:Int)+4:=IntWalk.i64_in _ (by omega);have s2:IntKind.i64.wrap ((a:Int)+(k:Int))=(a:Int)+(k:Int):=IntWalk.i64_in _ (by omega);have s3:(0:Int)<=(a:Int)+4:=by omega
  have s4:(a:Int)+4<=(a:Int)+(k:Int):=by omega
  have s5:(a:Int)+(k:Int)<=(r.wc:Int):=by omega
  have s6:((a:Int)+4).toNat=a+4:=by omega
  have s7:((a:Int)+(k:Int)).toNat=a+k:=by omega
  have s8:a+k-(a+4)=k-4:=by omega
  have cne:¬ r.wc=a+4:=by omega
  go_enter Tryz.func88,Tryz.ntmps88
  go_wp2_with fail
  have pr73a:=fun u_ (h_:Ext w u_)=>(h_.cell hlt 2).trans c2
  refine wp_region_seq (S:=fun W=>Ext w W) (R:=Ext) (by kernel_rfl) Ext.refl ?_ ?_
  . exact exx
  refine' tkL 0 ?_;refine' tkL 1 ?_;refine' tkL 2 ?_;refine' tkL 3 ?_;refine' tkL 4 ?_;refine' tkL 5 ?_;refine' tkL 6 ?_;refine' tkL 7 ?_;refine' tkL 8 ?_;refine' tkR 9 (v:=.int .i64 k) rfl (Or.inr ⟨by rfl,67,_, ?hx9_10, ?hy9_10⟩) ?rest9_10
  case hx9_10=>(intro w hSw;go_simp;try with_reducible rfl)
  case hy9_10=>exact fun w hE=>(LONG.out _ hE).mono (fun _ _ h=>⟨h.1,h.2,Ext.trans hE h.2⟩)
  refine layy ?_;refine' tkL 10 ?_;refine' tkL 11 ?_;refine' tkL 12 ?_;refine wpAnyR_done (by kernel_rfl) ?_ _;intro x1 _ Ex1;clear pr73a;go_wp2;go_returns;exact ⟨rfl,exx⟩
set_option maxRecDepth 100000 in
set_option maxHeartbeats 8000000 in
theorem rMerge {Q0:List Hp.Tl} {ch:Nat->List Nat} (h:RW w r { S with words:=W }) (hw:Hp.Wf S B L ch) (hm:Hp.Merging S [] Q0 17 W) :
    Calls Tryz.prog 150 #[.pointer (some ⟨r.rb,0,none⟩)] w (RTurned r w (.tuple #[]) S):=by
  have HW:=hZ hw;have hi:=hw.hi;have lo:=hw.lo;have HZ:=hZ hw.fr.toFr;have hcap:=h.cap;have hle:S.words.length<=r.wc:=by rw [<- hm.len];exact h.le
  have M0:=hZ hm;have N0:=hZ (RNow.refl h);obtain ⟨n,hnn⟩:∃ n,S.words.length=n:=⟨_,rfl⟩
  have EN:=hZ hnn;rw [hnn] at hi lo hle;clear h hm hnn hw;go_enter Tryz.func150,Tryz.ntmps150
  go_wp2_with fail
  go_loopg [2] Q0.length (fun g i wr=>∃ (P Q:List Hp.Tl) (a:Nat) (V:List Int),Q.length<=g/\i = .int .i64 a/\a<=n/\Hid (Hp.Merging S P Q a V)/\Hid (RNow w wr r { S with words:=V }))
  case atStart=>exact ⟨[],Q0,17,W,Nat.le_refl _,rfl,by omega,M0,N0⟩
  case round=>
   obtain ⟨P,Q,a,V,hg,rfl,ha,M,N⟩:=hrel;clear M0 N0;have EV:=hZ (M.out.len.trans EN.out);have c2:=N.out.len EV.out;have z1:=N.out.toRW.lt;have z2:=N.out.words.lt
   cases Q with
   | nil=>
    obtain ⟨ea,eP,near⟩:=M.out.near HW.out;have ea:a=n:=ea.trans EN.out;have LK:=hZ (rLink (S:=S) (W:=V) N.out.toRW HW.out near);subst ea;have tk:decide ((a:Int) < (a:Int))=false:=dF
    go_wp2_with (go_at_call 152;refine LK.out.mono ?_;rintro e w7 ⟨rfl,hN7⟩)
    go_returns;exact ⟨rfl,N.out.trans hN7⟩
   | cons t Q=>
    obtain ⟨q1,q2,q3⟩:=M.out.lay2;have q4:=q3.le;rw [EN.out] at q4;have tk:decide ((a:Int) < (n:Int))=true:=dT;simp only [List.length_cons] at hg
    cases hf:t.fr with
    | false=>
     have htk:=M.out.cell t (by simp) hf;have hat:t.a ∈ S.taken:=by rw [<- M.out.ads];exact Hp.mem_adsOf.2 ⟨t,by simp,hf,rfl⟩
     have e0:=M.out.cells t.a hat 0 (by have:=HW.out.part hat;omega);rw [Nat.add_zero] at e0;rw [q1] at htk hat e0;have hot:=HW.out.cells.tags a hat;have hto:=HW.out.tag_le hat;have LONG:=hZ (fun W (hW:Ext wr W)=>rLong_cell (N.out.toRW.at_.ext hW) HZ.out (a:=a) (by show a < V.length;rw [EV.out];omega) (by show Hp.okTag S.sizes (Hp.ow V a)=true;rw [e0];exact hot));have LONG2:Hid (∀ W,Ext wr W->Calls Tryz.prog 67 #[.pointer (some ⟨r.rb,0,none⟩),.int .i64 a] W fun e w'=>e = .returned (.int .i64 (t.k:Int))/\Ext W w'):=hZ (fun W hW=>by
      have:=LONG.out W hW;rw [show Hp.wz ({ S with words:=V }:Hp.Hs).sizes (Hp.ow ({ S with words:=V }:Hp.Hs).words a)=t.k by rw [htk];show Hp.wz S.sizes (Hp.ow V a)=_;rw [e0]] at this;exact this)
     have gx:=N.out.word (j:=a) (x:=Hp.ow V a) (by rw [EV.out];omega) rfl;have t0:(Hp.ow V a == 0)=false:=by rw [e0];simp;omega
     have M2:=hZ (M.out.pass (t:=t) (by rw [hf];simp));have an:a < n:=by omega
     clear htk hat e0 hot hto LONG q1 q3 hf;generalize Hp.ow V a=x at *
     go_wp2_with (go_at_call 67;refine (LONG2.out _ (exx)).mono ?_;rintro e w1 ⟨rfl,hb1⟩;obtain ⟨hc1,hf1,hs1⟩:=hb1.cells;have c2':=(hb1.cell z1 2).trans c2;have gx':=(hb1.cell z2 a).trans gx)
     go_roundg Q.length
     case measure=>omega
     case rel=>exact ⟨P ++ [t],Q,a+t.k,V,Nat.le_refl _,by go_num,by omega,M2,hZ (N.out.ext hb1)⟩
    | true=>
     have hfr:=M.out.free t (by simp) hf;rw [q1] at hfr;have LONG:=hZ (fun W (hW:Ext wr W)=>rLong_free (N.out.toRW.at_.ext hW) (a:=a) (k:=t.k) (by show a+1 < V.length;rw [EV.out];omega) hfr.1 hfr.2);have gx:=N.out.word (j:=a) (by rw [EV.out];omega) hfr.1;have an:a < n:=by omega
     cases Q with
     | nil=>
      have en:a+t.k=n:=by have:=q3;rw [q1] at *;exact (show a+t.k=S.words.length from this).trans EN.out
      have M2:=hZ (M.out.pass (t:=t) (by simp [Hp.hdF]));have t1:decide ((a:Int)+(t.k:Int) < (n:Int))=false:=dF;clear hfr q1 q3 hf
      go_wp2_with (go_at_call 67;refine (LONG.out _ (exx)).mono ?_;rintro e w1 ⟨rfl,hb1⟩;obtain ⟨hc1,hf1,hs1⟩:=hb1.cells;have c2':=(hb1.cell z1 2).trans c2;have gx':=(hb1.cell z2 a).trans gx)
      go_roundg 0
      case measure=>omega
      case rel=>exact ⟨P ++ [t],[],a+t.k,V,Nat.le_refl _,by go_num,by omega,M2,hZ (N.out.ext hb1)⟩
     | cons u Q=>
      obtain ⟨p1,p2,p3⟩:=q3;have p4:=p3.le;rw [EN.out] at p4;have t1:decide ((a:Int)+(t.k:Int) < (n:Int))=true:=dT;obtain ⟨y1,y2,y3,y4⟩:IntKind.i64.wrap (((a:Nat):Int)+((t.k:Nat):Int))=((a:Nat):Int)+((t.k:Nat):Int)/\(0:Int)<=((a:Nat):Int)+((t.k:Nat):Int)/\((a:Nat):Int)+((t.k:Nat):Int) < ((n:Nat):Int)/\(((a:Nat):Int)+((t.k:Nat):Int)).toNat=a+t.k:=⟨IntWalk.i64_in _ (by omega),by omega,by omega,by omega⟩
      cases hu:u.fr with
      | false=>
       have hat:u.a ∈ S.taken:=by rw [<- M.out.ads];exact Hp.mem_adsOf.2 ⟨u,by simp,hu,rfl⟩
       have e0:=M.out.cells u.a hat 0 (by have:=HW.out.part hat;omega);rw [Nat.add_zero] at e0;have hto:=HW.out.tag_le hat;rw [p1] at e0 hto;have gy:=N.out.word (j:=a+t.k) (x:=Hp.ow V (a+t.k)) (by rw [EV.out];omega) rfl;have t0:(Hp.ow V (a+t.k) == 0)=false:=by rw [e0];simp;omega
       have M2:=hZ (M.out.pass (t:=t) (by simp [Hp.hdF,hu]));clear hat e0 hto q1 hf hfr hu p3;generalize Hp.ow V (a+t.k)=x at *
       go_wp2_with (go_at_call 67;refine (LONG.out _ (exx)).mono ?_;rintro e w1 ⟨rfl,hb1⟩;obtain ⟨hc1,hf1,hs1⟩:=hb1.cells;have c2':=(hb1.cell z1 2).trans c2;have gx':=(hb1.cell z2 a).trans gx;have gy':=(hb1.cell z2 (a+t.k)).trans gy)
       go_roundg (u :: Q).length
       case measure=>simp only [List.length_cons] at *;omega
       case rel=>exact ⟨P ++ [t],u :: Q,a+t.k,V,Nat.le_refl _,by go_num,by omega,M2,hZ (N.out.ext hb1)⟩
      | true=>
       have J:=hZ (M.out.join HW.out hf hu);have gy:=N.out.word (j:=a+t.k) (by rw [EV.out];omega) J.out.2.2.1;have gk:=N.out.word (j:=a+1) J.out.1 J.out.2.1;have gu:=N.out.word (j:=a+t.k+1) (by rw [EV.out];omega) J.out.2.2.2.1;clear q1 hf hfr hu p3;go_upto_region 4 with (go_at_call 67;refine (LONG.out _ (exx)).mono ?_;rintro e w1 ⟨rfl,hb1⟩;obtain ⟨hc1,hf1,hs1⟩:=hb1.cells;have c2':=(hb1.cell z1 2).trans c2;have gx':=(hb1.cell z2 a).trans gx;have gy':=(hb1.cell z2 (a+t.k)).trans gy)
       have N1:=hZ (N.out.ext hb1);have gk1:=(hb1.cell z2 (a+1)).trans gk;have gu1:=(hb1.cell z2 (a+t.k+1)).trans gu;have za:=Nat.lt_of_lt_of_le z2 hb1.le;have zb:=Nat.lt_of_lt_of_le z1 hb1.le;obtain ⟨q1,q2,q3,q4⟩:IntKind.i64.wrap (((a:Nat):Int)+1)=((a:Nat):Int)+1/\(0:Int)<=((a:Nat):Int)+1/\((a:Nat):Int)+1 < ((n:Nat):Int)/\(((a:Nat):Int)+1).toNat=a+1:=⟨IntWalk.i64_in _ (by omega),by omega,by omega,by omega⟩
       obtain ⟨s1,s2,s3,s4⟩:IntKind.i64.wrap (((a:Nat):Int)+((t.k:Nat):Int)+1)=((a:Nat):Int)+((t.k:Nat):Int)+1/\(0:Int)<=((a:Nat):Int)+((t.k:Nat):Int)+1/\((a:Nat):Int)+((t.k:Nat):Int)+1 < ((n:Nat):Int)/\(((a:Nat):Int)+((t.k:Nat):Int)+1).toNat=a+t.k+1:=⟨IntWalk.i64_in _ (by omega),by omega,by omega,by omega⟩
       have ws:IntKind.i64.wrap ((t.k:Int)+(u.k:Int))=(t.k:Int)+(u.k:Int):=IntWalk.i64_in _ (by omega);clear gy gk gu gx gx' gy' c2 z1 z2 p1 hc1 hf1 hs1;refine wp_region_still_tail 18 (by kernel_rfl) (by kernel_rfl) ?_;change wpStill _ _ (World.drew w1) (fun a'=>wpList _ _ _ _ a' (World.drew w1)) _ _;have ED:Ext w1 (World.drew w1):=Ext.drew (Ext.refl _);have NY:=hZ (N1.out.ext ED);generalize World.drew w1=wy at NY ED ⊢;have f2:=NY.out.f2;have z1:=NY.out.toRW.lt;have z2:=NY.out.words.lt;have c2x:=(ED.cell zb 2).trans c2';have g1:=(ED.cell za (a+1)).trans gk1;have g2:=(ED.cell za (a+t.k+1)).trans gu1;have fr:=NY.out.words.froz (a+1);simp only [List.take_succ_cons,List.take_zero,List.drop_succ_cons,List.drop_zero]
       repeat still_step
       refine wpStill_nil ?_;have N2:=hZ (NY.out.set (j:=a+1) (v:=(t.k:Int)+(u.k:Int)) J.out.1 (by omega) (by omega))
       go_wp2_with fail
       go_roundg (Q.length+1)
       case measure=>simp only [List.length_cons] at *;omega
       case rel=>exact ⟨P,⟨a,t.k+u.k,true⟩ :: Q,a,_,by simp,rfl,by omega,hZ J.out.2.2.2.2,N2⟩
theorem RNow.go0 (h:RNow w0 w r { S with words:=V }) (hj:j < V.length) (e:Hp.ow V j=x) (ej:j=a+4+k):w.cell? ⟨r.gb,r.go+(a+4)+k,none⟩=some (.int .i64 x):=by
 rw [h.go,Nat.zero_add,<- ej]
 exact h.word hj e
set_option maxRecDepth 100000 in
set_option maxHeartbeats 16000000 in
theorem rCollect {k0:Nat} {ch:Nat->List Nat} (h:RW w r S) (hw:Hp.Wf S B L ch) (hco:S.collect=some (k0,S')) :
    Calls Tryz.prog 96 #[.pointer (some ⟨r.rb,0,none⟩)] w (RTurned r w (.int .i64 k0) S'):=by
  obtain ⟨T,hT⟩:=Hp.live_total hw;obtain ⟨W1,W2,S3,L3,hmid,hw3⟩:=Hp.collect_mid hw hT;have hco2:=hmid.co;rw [hco] at hco2;simp only [Option.some.injEq,Prod.mk.injEq] at hco2;obtain ⟨rfl,rfl⟩:=hco2;have LV:=hZ (rLive h.at_ hw hT);have CELLS:=hZ (fun W (hW:Ext w W)=>rCells_ (h.at_.ext hW) hw);have H:=hZ (RNow.refl h);have HW:=hZ hw;have HW3:=hZ hw3;have MD:=hZ hmid;have few:=hw.few;have hhi:=hw.hi;have lo:=hw.lo;have hle:=h.le;have hcap:=h.cap;have own:=hZ h.own_lt;obtain ⟨n,hn⟩:∃ n,S.words.length=n:=⟨_,rfl⟩
  have EN:=hZ hn;rw [hn] at hle few hhi lo;obtain ⟨m,hm⟩:∃ m,S.taken.length=m:=⟨_,rfl⟩
  have EM:=hZ hm;rw [hm] at few;have hmk:=Hp.mid_merging hw hmid (W:=W2);obtain ⟨D,hD⟩:∃ D,S.taken.filter (fun a=>!T.contains a)=D:=⟨_,rfl⟩
  have MG:=hZ (fun V (hk:Hp.Marked S W2 D V)=>Hp.mid_merging hw hmid (W:=V) (by rw [hD];exact hk));have ED:=hZ hD;have hDs:D.Sublist S.taken:=by rw [<- hD];exact List.filter_sublist
  have DS:=hZ hDs;have dlm:D.length<=m:=by rw [<- hm];exact hDs.length_le
  have DM:=hZ (show ∀ x ∈ S.taken,D.contains x = !T.contains x from fun x hx=>by
   rw [<- hD,Bool.eq_iff_iff];simp [hx])
  rw [hD];clear h hw hT hco hmid hw3 hn hm hmk hDs hD;go_enter Tryz.func96,Tryz.ntmps96
  go_wp2_with (first
   | (go_at_call 83;refine LV.out.mono ?_;rintro e w1 ⟨Y,p,c,b0,rfl,hb0,hR1,hE1,hY,hYl⟩;clear hYl)
   | (go_at_call 82;refine (CELLS.out _ hE1).mono ?_;rintro e w2 ⟨p2,c2,rfl,hR2,hE2⟩;rw [cellsI_len,EM.out]))
  have SY:=hZ (hR1.at_.ext hE2);have SL:=hZ hR2.at_;have yle:=SY.out.le;have ycap:=SY.out.cap;rw [Hp.natsI_len] at yle;have lle:=SL.out.le;have lcap:=SL.out.cap;rw [cellsI_len,EM.out] at lle;have YT:=hZ (show ∀ x:Nat,(Hp.natsI Y).contains (x:Int)=T.contains x from fun x=>by
   rw [Hp.natsI_contains,Bool.eq_iff_iff]
   simpa using hY x)
  have N2:=hZ (H.out.ext (hE1.trans hE2));have w2le:w.heap.size<=w2.heap.size:=Nat.le_trans hE1.le hE2.le;obtain ⟨yl,hyl⟩:∃ yl,Y.length=yl:=⟨_,rfl⟩
  have EY:=hZ hyl;rw [hyl] at yle ⊢;clear hyl;clear hR1 hR2 hE1 hE2 hY LV CELLS hb0
  go_loopg [4,6] m (fun g o i wr=>∃ (j:Nat) (p3:Option Addr) (c3:Nat),j<=m/\m-j<=g/\o = .slice p3 ((S.taken.take j).filter fun a=>!T.contains a).length c3/\i = .int .i64 j/\Hid (Row wr w2.heap.size p3 c3 (Hp.natsI ((S.taken.take j).filter fun a=>!T.contains a)))/\Hid (Ext w2 wr))
  case atStart=>exact ⟨0,none,0,Nat.zero_le _,by omega,by simp,rfl,hZ (Row.nil _ _),hZ (Ext.refl _)⟩
  case round=>
   obtain ⟨j,p3,c3,hj,hg,rfl,rfl,R,E⟩:=hrel;have dj:((S.taken.take j).filter fun a=>!T.contains a).length<=m:=by
    refine Nat.le_trans (List.length_filter_le _ _) ?_;rw [List.length_take];omega
   have SR:=hZ R.out.at_;have q1:=SR.out.le;have q2:=SR.out.cap;rw [Hp.natsI_len] at q1
   by_cases hlt:j < m
   . obtain ⟨a,ha,haj,hrd⟩:=cellsI_rd (S:=S) (j:=j) (by rw [EM.out];exact hlt);have pa:=HW.out.part ha;rw [EN.out] at pa;obtain ⟨lb,lo2,hlp,hlbb,hlc⟩:=(SL.out.ext E.out).cells (by rw [cellsI_len,EM.out];omega);have gl:=hlc j _ hrd;have an:a < n:=by omega
     have tk:decide ((j:Int) < (m:Int))=true:=dT;obtain ⟨bt,hbt⟩:∃ bt,T.contains a=bt:=⟨_,rfl⟩
     have HAS:=hZ (by
      have:=rHas_is ((YT.out a).trans hbt) (SY.out.ext E.out);rw [Hp.natsI_len,EY.out] at this;exact this)
     have ef:=filter_take_succ (q:=fun a=>!T.contains a) haj;simp only [hbt] at ef;subst hlp;clear hlc hrd ha haj pa hbt
     cases bt with
     | true=>
      simp only [Bool.not_true,Bool.false_eq_true,if_false,List.append_nil] at ef;have EF:=hZ ef;clear ef
      go_wp2_with (go_at_call 85;refine (HAS.out).mono ?_;rintro e w4 ⟨rfl,hb4⟩;obtain ⟨hc4,hf4,hs4⟩:=hb4.cells)
      go_roundg (m-(j+1))
      case measure=>omega
      case rel=>exact ⟨j+1,p3,c3,by omega,Nat.le_refl _,by rw [EF.out];simp,by go_num,hZ (by rw [EF.out];exact R.out.ext hb4),hZ (E.out.trans hb4)⟩
     | false=>
      simp only [Bool.not_false,if_true] at ef;have EF:=hZ ef;clear ef;obtain ⟨DJ,hDJ⟩:∃ DJ,(S.taken.take j).filter (fun a=>!T.contains a)=DJ:=⟨_,rfl⟩
      have EDJ:=hZ hDJ;rw [hDJ] at R dj q1 ⊢;clear hDJ;have zl:=hlbb;go_upto_region 8 with (go_at_call 85;refine (HAS.out).mono ?_;rintro e w4 ⟨rfl,hb4⟩;obtain ⟨hc4,hf4,hs4⟩:=hb4.cells)
      have E4:=hZ (E.out.trans hb4);have gl2:=(hb4.cell hlbb (lo2+j)).trans gl;have zl2:=Nat.lt_of_lt_of_le zl hb4.le;have wsz:w2.heap.size<=w4.heap.size:=E4.out.le;have RA:=hZ ((R.out.ext hb4).ext (Ext.alloc (Ext.refl _) (.cells #[.int .i64 a] 3)));clear hc4 hf4 hs4
      go_wp2_with (at_builtin;rw [<- Hp.natsI_len DJ];refine wpList_append_int rfl _ _ rfl (y:=(a:Int)) rfl rfl RA.out (by go_simp) (by omega) (by omega) (by rw [Hp.natsI_len];omega) (by simp;omega) ?_;intro g8 c8 x8 hR8 hG8;obtain ⟨row,hgr,hrow⟩:=id hG8;have E8:Ext w2 x8:=ext_grow (E4.out.alloc _) hgr hrow;have R8H:=hZ hR8)
      go_roundg (m-(j+1))
      case measure=>omega
      case rel=>exact ⟨j+1,some ⟨g8,0,none⟩,c8,by omega,Nat.le_refl _,by rw [EF.out,EDJ.out];simp [Hp.natsI_len],by go_num,hZ (by rw [EF.out,EDJ.out,Hp.natsI_app];exact R8H.out),hZ E8⟩
   have:j=m:=by omega
   subst this;have tk:decide ((j:Int) < (j:Int))=false:=dF;have eD:(S.taken.take j).filter (fun a=>!T.contains a)=D:=by rw [List.take_of_length_le (by rw [EM.out];exact Nat.le_refl _)];exact ED.out
   rw [eD] at R q1 dj ⊢;obtain ⟨w3,rfl⟩:∃ w3,w3=wr:=⟨_,rfl⟩
   have SD:=hZ R.out.at_;have FD:=hZ (show ∀ b o,p3=some ⟨b,o,none⟩->b ∉ r.own from fun b o e hm=>by
    have:=R.out.far e;have:=own.out b hm;omega)
   have N3:=hZ (RNow.refl ((N2.out.ext E.out).toRW));have TOT:=hZ (N2.out.ext E.out);obtain ⟨dl,hdl⟩:∃ dl,D.length=dl:=⟨_,rfl⟩
   have EDL:=hZ hdl;rw [hdl] at q1 dj ⊢;have SDL:=hZ (show ∀ W,But r.own w3 W->SliceAt W p3 c3 (Hp.natsI D) from fun W k=>SD.out.but k FD.out);clear hdl eD SR SL SY R E N2 YT EY yle ycap lle lcap
   go_wp2_with fail
   go_loopg [7] 16 (fun g i wr=>∃ (k:Nat) (V:List Int),k<=16/\16-k<=g/\i = .int .i64 k/\Hid (Hp.Unl S ch T k V W1)/\Hid (RNow w3 wr r { S with words:=V }))
   case atStart=>exact ⟨0,S.words,by omega,by omega,rfl,hZ (Hp.Unl.start HW.out MD.out),N3⟩
   case round=>
    obtain ⟨k,V,hk,hgk,rfl,U,N⟩:=hrel;clear N3
    by_cases hlt:k < 16
    . obtain ⟨Wk,U1,U2⟩:=U.out.into HW.out hlt;have UI:=hZ U1;have UN:=hZ U2;have tk:decide ((k:Int) < 16)=true:=dT;clear U1 U2 U
      go_wp2_with fail
      go_loopg [8] S.fuel (fun g s wr=>∃ (mm link:Nat) (V:List Int),mm<=g/\s = .int .i64 link/\Hid (Hp.UnlIn S T mm link V Wk)/\Hid (RNow w3 wr r { S with words:=V }))
      case atStart=>exact ⟨S.fuel,k,V,Nat.le_refl _,rfl,UI,N⟩
      case round=>
       obtain ⟨mm,link,V2,hmm,rfl,UI2,NV⟩:=hrel;clear UI N;have EV:=hZ (UI2.out.len.trans EN.out);have ll:=UI2.out.lt;rw [EN.out] at ll;have c2:=NV.out.len EV.out;have z1:=NV.out.toRW.lt;have z2:=NV.out.words.lt;obtain ⟨m',rfl,hq⟩:=UI2.out.cases HW.out
       rcases hq with ⟨e0,rfl⟩ | ⟨x,hx,ex,hq⟩
       . have g0:=NV.out.word (j:=link) (by rw [EV.out];exact ll) e0;clear e0
         go_wp2_with fail
         go_roundg (16-(k+1))
         case measure=>omega
         case rel=>exact ⟨k+1,Wk,by omega,Nat.le_refl _,by go_num,UN,NV⟩
       have g0:=NV.out.word (j:=link) (by rw [EV.out];exact ll) ex;have px:=HW.out.part hx;rw [EN.out] at px;have t0:((x:Int) != 0)=true:=by simp;omega
       have SDW:=hZ (SDL.out _ NV.out.but);obtain ⟨bt,hbt⟩:∃ bt,T.contains x=bt:=⟨_,rfl⟩
       have HAS:=hZ (by
        have:=rHas_is (Hp.natsI_contains.trans (DM.out x hx)) SDW.out;rw [Hp.natsI_len,EDL.out,hbt] at this;exact this)
       have xn:x+3 < n:=by omega
       have EX:=hZ ex;clear px hx ex
       rcases hq with ⟨hc,hq⟩ | ⟨hc,hq⟩
       . rw [hbt] at hc;subst hc;have UQ:=hZ hq;simp only [Bool.not_true] at HAS;clear hq hbt
         go_wp2_with (go_at_call 85;refine (HAS.out).mono ?_;rintro e w4 ⟨rfl,hb4⟩;obtain ⟨hc4,hf4,hs4⟩:=hb4.cells)
         go_roundg m'
         case measure=>omega
         case rel=>exact ⟨m',x+3,V2,Nat.le_refl _,by go_num,UQ,hZ (NV.out.ext hb4)⟩
       rw [hbt] at hc;subst hc;have UQ:=hZ hq;simp only [Bool.not_false] at HAS;have b3:=NV.out.toRW.bound (j:=x+3) (by show x+3 < V2.length;rw [EV.out];exact xn);have B3:=hZ b3;clear hq hbt b3;go_upto_region 16 with (go_at_call 85;refine (HAS.out).mono ?_;rintro e w4 ⟨rfl,hb4⟩;obtain ⟨hc4,hf4,hs4⟩:=hb4.cells)
       have N4:=hZ (NV.out.ext hb4);clear c2 z1 z2 g0 hc4 hf4 hs4;obtain ⟨y1,y2,y3,y4⟩:IntKind.i64.wrap (((x:Nat):Int)+3)=((x:Nat):Int)+3/\(0:Int)<=((x:Nat):Int)+3/\((x:Nat):Int)+3 < ((n:Nat):Int)/\(((x:Nat):Int)+3).toNat=x+3:=⟨IntWalk.i64_in _ (by omega),by omega,by omega,by omega⟩
       refine wp_region_still_tail 14 (by kernel_rfl) (by kernel_rfl) ?_;change wpStill _ _ (World.drew w4) (fun a'=>wpList _ _ _ _ a' (World.drew w4)) _ _;have EDW:Ext w4 (World.drew w4):=Ext.drew (Ext.refl _);have NY:=hZ (N4.out.ext EDW);generalize World.drew w4=wy at NY EDW ⊢;have f2:=NY.out.f2;have z1:=NY.out.toRW.lt;have z2:=NY.out.words.lt;have c2:=NY.out.len EV.out;have g0:=NY.out.word (j:=link) (by rw [EV.out];exact ll) EX.out;have g3:=NY.out.word (j:=x+3) (x:=_) (by rw [EV.out];exact xn) rfl;have fr:=NY.out.words.froz link;simp only [List.take_succ_cons,List.take_zero,List.drop_succ_cons,List.drop_zero]
       repeat still_step
       refine wpStill_nil ?_;have N5:=hZ (NY.out.set (j:=link) (v:=Hp.ow V2 (x+3)) (by show link < V2.length;rw [EV.out];exact ll) B3.out.1 B3.out.2)
       go_wp2_with fail
       go_roundg m'
       case measure=>omega
       case rel=>exact ⟨m',link,_,Nat.le_refl _,rfl,UQ,N5⟩
    have:k=16:=by omega
    subst this;have tk:decide (((16:Nat):Int) < 16)=false:=dF;have eV:=U.out.fin;subst eV;clear U
    go_wp2_with fail
    go_loopg [10] dl (fun g s wr=>∃ (i:Nat) (V1:List Int),i<=dl/\dl-i<=g/\s = .int .i64 i/\Hid (Hp.Counting S V D i V1)/\Hid (RNow w3 wr r { S with words:=V1 }))
    case atStart=>exact ⟨0,V,Nat.zero_le _,by omega,rfl,hZ (Hp.Counting.start MD.out),N⟩
    case round=>
     obtain ⟨i,V1,hi,hgi,rfl,CT,NC⟩:=hrel;clear N;have EV:=hZ (CT.out.len.trans EN.out);have c2x:=NC.out.len EV.out;have z1:=NC.out.toRW.lt;have z2:=NC.out.words.lt
     by_cases hlt2:i < dl
     . obtain ⟨a,hai⟩:∃ a,D[i]? = some a:=⟨_,List.getElem?_eq_getElem (by rw [EDL.out];exact hlt2)⟩
       have hat:a ∈ S.taken:=DS.out.subset (List.mem_of_getElem? hai);have pa:=HW.out.part hat;obtain ⟨db,dof,hdp,hdb,hdc⟩:=(SDL.out _ NC.out.but).cells (by rw [Hp.natsI_len,EDL.out];omega);have gd:=hdc i _ (Hp.natsI_rd hai);have tk:decide ((i:Int) < (dl:Int))=true:=dT;have e0:=CT.out.look HW.out MD.out hat (j:=0) (by omega) (by omega) (by omega);rw [Nat.add_zero] at e0;have RI:=hZ (rIsNode NC.out.toRW.at_ (a:=a) (by show a < V1.length;have:=EV.out;have:=EN.out;omega));rw [show Hp.ow ({ S with words:=V1 }:Hp.Hs).words a=Hp.ow S.words a from e0] at RI;have HAT:=hZ hat;have HAI:=hZ hai;subst hdp
       cases he:Hp.isEnd (Hp.ow S.words a) with
       | true=>
        have hne:¬ Hp.ow S.words a < 20:=by
         simp only [Hp.isEnd,Hp.within,Bool.and_eq_true,decide_eq_true_eq] at he;omega
        rw [decide_eq_false hne] at RI;have CT2:=hZ (Hp.CountIn.done hai (by rw [show (Hp.kz (Hp.ow S.words) S.sizes a).length=0 by simp [Hp.kz,he]];exact CT.out.into));clear hdc hat hai pa e0 he hne
        go_wp2_with (go_at_call 87;refine (RI.out).mono ?_;rintro e w4 ⟨rfl,hb4⟩;obtain ⟨hc4,hf4,hs4⟩:=hb4.cells)
        go_roundg (dl-(i+1))
        case measure=>omega
        case rel=>exact ⟨i+1,V1,by omega,Nat.le_refl _,by go_num,CT2,hZ (NC.out.ext hb4)⟩
       | false=>
        have hot:=HW.out.cells.tags a hat;have hnd:=Hp.isNode_of hot he;have hlt20:Hp.ow S.words a < 20:=by
         simp only [Hp.isNode,Hp.within,Bool.and_eq_true,decide_eq_true_eq] at hnd;have:=HW.out.fr.few;omega
        rw [decide_eq_true hlt20] at RI;have ekz:Hp.kz (Hp.ow S.words) S.sizes a=Hp.fz (Hp.ow S.words) S.sizes a:=by simp [Hp.kz,he]
        obtain ⟨fl,hfl⟩:∃ fl,Hp.wz S.sizes (Hp.ow S.words a)-4=fl:=⟨_,rfl⟩
        have EKL:=hZ (show (Hp.kz (Hp.ow S.words) S.sizes a).length=fl by rw [ekz,Hp.fz_length];exact hfl);have EKZ:=hZ ekz;have FLD:Hid (∀ W,Ext wr W->Calls Tryz.prog 88 #[.pointer (some ⟨r.rb,0,none⟩),.int .i64 a] W fun e w'=>e = .returned (.slice (some ⟨r.gb,r.go+(a+4),none⟩) fl (r.wc-(a+4)))/\Ext W w'):=hZ (fun W hW=>by
         have:=rField_at (NC.out.toRW.at_.ext hW) HW.out.fr.toFr (a:=a) (by show a+Hp.wz S.sizes (Hp.ow V1 a)<=V1.length;rw [e0,EV.out,<- EN.out];exact pa.2.2.1) (by show Hp.okTag S.sizes (Hp.ow V1 a)=true;rw [e0];exact hot) (by show V1.length<=100000;rw [EV.out];exact hhi);rw [show Hp.wz ({ S with words:=V1 }:Hp.Hs).sizes (Hp.ow ({ S with words:=V1 }:Hp.Hs).words a)-4=fl by show Hp.wz S.sizes (Hp.ow V1 a)-4=fl;rw [e0];exact hfl] at this;exact this)
        have fl12:fl<=12:=by omega
        have alen:a+4+fl<=n:=by rw [EN.out] at pa;omega
        have WF:=hZ (show Hp.wz S.sizes (Hp.ow S.words a)=fl+4 by omega);clear hdc hat hai pa e0 he hot hnd hlt20 ekz hfl
        go_wp2_with (first
         | (go_at_call 87;refine (RI.out).mono ?_;rintro e w4 ⟨rfl,hb4⟩;obtain ⟨hc4,hf4,hs4⟩:=hb4.cells;have gd2:=(hb4.cell hdb (dof+i)).trans gd)
         | (go_at_call 88;refine (FLD.out _ hb4).mono ?_;rintro e w5 ⟨rfl,hb5⟩;obtain ⟨hc5,hf5,hs5⟩:=hb5.cells))
        have N5:=hZ (NC.out.ext (hb4.trans hb5));clear c2x z1 z2 gd gd2 hb4 hb5 hc4 hf4 hs4 hc5 hf5 hs5 RI FLD
        go_loopg [12] fl (fun g s wr=>∃ (k:Nat) (V2:List Int),k<=fl/\fl-k<=g/\s = .int .i64 k/\Hid (Hp.CountIn S V D i a k V2)/\Hid (RNow w3 wr r { S with words:=V2 }))
        case atStart=>exact ⟨0,V1,Nat.zero_le _,by omega,rfl,hZ CT.out.into,N5⟩
        case round=>
         obtain ⟨kk,V2,hkk,hgk,rfl,CI,NK⟩:=hrel;clear N5 NC CT EV;have EV:=hZ (CI.out.len.trans EN.out)
         by_cases hlt3:kk < fl
         . obtain ⟨x,hx⟩:∃ x,(Hp.kz (Hp.ow S.words) S.sizes a)[kk]? = some x:=⟨_,List.getElem?_eq_getElem (by rw [EKL.out];exact hlt3)⟩
           obtain ⟨b,hbt,exb,_⟩:=HW.out.cells.kids a HAT.out x (List.mem_of_getElem? hx);rw [exb] at hx;have ST:=hZ (CI.out.step HW.out MD.out DS.out HAT.out hx);have ev:Hp.ow V2 (a+(4+kk))=(b:Int):=by
            rw [CI.out.look HW.out MD.out HAT.out (j:=4+kk) (by rw [WF.out];omega) (by omega) (by omega)];rw [EKZ.out] at hx;unfold Hp.fz at hx;rw [Hp.cut_get (by rw [WF.out];omega)] at hx;rw [<- Nat.add_assoc];exact Option.some.inj hx
           have gk:=NK.out.go0 (a:=a) (k:=kk) (j:=a+(4+kk)) (by rw [EV.out];omega) ev (by omega);have tk2:decide ((kk:Int) < (fl:Int))=true:=dT;have bn:b+1 < n:=by have:=ST.out.2.1;rw [EV.out] at this;exact this
           have VB:=hZ (⟨ST.out.2.2.1,ST.out.2.2.2.1⟩ : -1000000<=Hp.ow V2 (b+1)/\Hp.ow V2 (b+1)<=100000);have wv:IntKind.i64.wrap (Hp.ow V2 (b+1)-1)=Hp.ow V2 (b+1)-1:=IntWalk.i64_in _ (by have:=VB.out;omega);have zz:=NK.out.words.lt;obtain ⟨y1,y2,y3,y4⟩:IntKind.i64.wrap (((b:Nat):Int)+1)=((b:Nat):Int)+1/\(0:Int)<=((b:Nat):Int)+1/\((b:Nat):Int)+1 < ((n:Nat):Int)/\(((b:Nat):Int)+1).toNat=b+1:=⟨IntWalk.i64_in _ (by omega),by omega,by omega,by omega⟩
           clear hx hbt exb ev
           go_wp2_with fail
           refine wp_region_still_tail 13 (by kernel_rfl) (by kernel_rfl) ?_;change wpStill _ _ (World.drew wr) (fun a'=>wpList _ _ _ _ a' (World.drew wr)) _ _;have EDW:Ext wr (World.drew wr):=Ext.drew (Ext.refl _);have NY:=hZ (NK.out.ext EDW);generalize World.drew wr=wy at NY EDW ⊢;have f2:=NY.out.f2;have z1:=NY.out.toRW.lt;have z2:=NY.out.words.lt;have c2':=NY.out.len EV.out;have gk':=(EDW.cell zz (r.go+(a+4)+kk)).trans gk;have g1:=NY.out.word (j:=b+1) (x:=_) (by rw [EV.out];exact bn) rfl;have fr:=NY.out.words.froz (b+1);simp only [List.take_succ_cons,List.take_zero,List.drop_succ_cons,List.drop_zero]
           repeat still_step
           refine wpStill_nil ?_;clear y1 y2 y3 y4;have N9:=hZ (NY.out.set (j:=b+1) (v:=Hp.ow V2 (b+1)-1) (by show b+1 < V2.length;rw [EV.out];exact bn) (by have:=VB.out;omega) (by have:=VB.out;omega))
           go_wp2_with fail
           go_roundg (fl-(kk+1))
           case measure=>omega
           case rel=>exact ⟨kk+1,_,by omega,Nat.le_refl _,by go_num,hZ ST.out.2.2.2.2,N9⟩
         have:kk=fl:=by omega
         subst this;have tk2:decide ((kk:Int) < (kk:Int))=false:=dF;have CT2:=hZ (Hp.CountIn.done HAI.out (by rw [EKL.out];exact CI.out))
         go_wp2_with fail
         go_roundg (dl-(i+1))
         case measure=>omega
         case rel=>exact ⟨i+1,V2,by omega,Nat.le_refl _,by go_num,CT2,NK⟩
     have:i=dl:=by omega
     subst this;have tk:decide ((i:Int) < (i:Int))=false:=dF;have eV2:=(show V1=W2 from by
      have:=CT.out;rw [<- EDL.out,<- ED.out] at this;exact Hp.Counting.fin HW.out MD.out this)
     subst eV2
     go_wp2_with fail
     have DUP:=hZ (show D.Pairwise (· < ·) from HW.out.up.sublist DS.out)
     go_loopg [13] i (fun g s wr=>∃ (q:Nat) (V2:List Int),q<=i/\i-q<=g/\s = .int .i64 q/\Hid (Hp.Marked S V1 (D.take q) V2)/\Hid (RNow w3 wr r { S with words:=V2 }))
     case atStart=>exact ⟨0,V1,Nat.zero_le _,by omega,rfl,hZ (by rw [List.take_zero];exact Hp.Marked.start S V1),NC⟩
     case round=>
      obtain ⟨q,V2,hq,hgq,rfl,MK,NM⟩:=hrel;have EV1:=hZ EV.out;clear NC c2x z1 z2 EV;have EV:=hZ (MK.out.len.trans EV1.out);have c2x:=NM.out.len EV.out;have z1:=NM.out.toRW.lt;have z2:=NM.out.words.lt
      by_cases hlt3:q < i
      . obtain ⟨a,hai⟩:∃ a,D[q]? = some a:=⟨_,List.getElem?_eq_getElem (by rw [EDL.out];exact hlt3)⟩
        have hat:a ∈ S.taken:=DS.out.subset (List.mem_of_getElem? hai);have pa:=HW.out.part hat;obtain ⟨db,dof,hdp,hdb,hdc⟩:=(SDL.out _ NM.out.but).cells (by rw [Hp.natsI_len,EDL.out];omega);have gd:=hdc q _ (Hp.natsI_rd hai);have tk:decide ((q:Int) < (i:Int))=true:=dT;have old:∀ b ∈ D.take q,b ≠ a/\b+1 ≠ a/\b ≠ a+1:=fun b hb=>by
         obtain ⟨h1,h2⟩:=Hp.take_lt DUP.out hai hb;have hbt:=DS.out.subset h1;have pb:=HW.out.part hbt;have s1:=HW.out.ne (i:=1) (j:=0) hbt hat (by omega) (by omega) (.inr (by omega));exact ⟨by omega,by simpa using s1,by omega⟩
        have e0:Hp.ow V2 a=Hp.ow S.words a:=by
         rw [MK.out.other a fun b hb=>⟨(old b hb).1.symm,(old b hb).2.1.symm⟩];have:=MD.out.k2 a hat 0 (by omega) (by omega) (by omega)
         simpa using this
        obtain ⟨wk,hwk⟩:∃ wk,Hp.wz S.sizes (Hp.ow S.words a)=wk:=⟨_,rfl⟩
        have LONG:Hid (∀ W,Ext wr W->Calls Tryz.prog 67 #[.pointer (some ⟨r.rb,0,none⟩),.int .i64 a] W fun e w'=>e = .returned (.int .i64 (wk:Int))/\Ext W w'):=hZ (fun W hW=>by
         have:=rLong_cell (NM.out.toRW.at_.ext hW) HW.out.fr.toFr (a:=a) (by show a < V2.length;have:=EV.out;have:=EN.out;omega) (by show Hp.okTag S.sizes (Hp.ow V2 a)=true;rw [e0];exact HW.out.cells.tags a hat);rw [show Hp.wz ({ S with words:=V2 }:Hp.Hs).sizes (Hp.ow ({ S with words:=V2 }:Hp.Hs).words a)=wk by show Hp.wz S.sizes (Hp.ow V2 a)=wk;rw [e0];exact hwk] at this;exact this)
        have MK2:=hZ (by
         have:=MK.out.step (b:=a) (by rw [EV1.out,<- EN.out];omega) old;rw [hwk] at this;exact this)
        have ET:=hZ (show D.take (q+1)=D.take q ++ [a] by
         obtain ⟨hl,rfl⟩:=List.getElem?_eq_some_iff.1 hai;exact List.take_succ_eq_append_getElem hl)
        have an:a < n:=by rw [EN.out] at pa;omega
        have an1:a+1 < n:=by rw [EN.out] at pa;omega
        have wk16:wk<=16:=by omega
        have DBN:=hZ (show db ∉ r.own from FD.out db dof hdp);clear hdc hat hai pa old e0 hwk;subst hdp;go_upto_region 31 with (go_at_call 67;refine (LONG.out _ (exx)).mono ?_;rintro e w4 ⟨rfl,hb4⟩;obtain ⟨hc4,hf4,hs4⟩:=hb4.cells)
        have N4:=hZ (NM.out.ext hb4);have gd4:=(hb4.cell hdb (dof+q)).trans gd;have zd4:=Nat.lt_of_lt_of_le hdb hb4.le;clear c2x z1 z2 gd hb4 hc4 hf4 hs4 LONG;obtain ⟨y1,y2,y3,y4⟩:IntKind.i64.wrap (((a:Nat):Int)+1)=((a:Nat):Int)+1/\(0:Int)<=((a:Nat):Int)+1/\((a:Nat):Int)+1 < ((n:Nat):Int)/\(((a:Nat):Int)+1).toNat=a+1:=⟨IntWalk.i64_in _ (by omega),by omega,by omega,by omega⟩
        have c2x:=N4.out.len EV.out;refine wp_region_stores (S:=(fun W:World=>W.cell? ⟨r.rb,2,none⟩=some (.slice (some ⟨r.gb,0,none⟩) n r.wc)/\W.cell? ⟨db,dof+q,none⟩=some (.int .i64 a))) [false,false,false,false,false,false,false,false,false,false,false,false,false,false,false,false,false,false,false,true,false,true] (by kernel_rfl) (by kernel_rfl) (fun _ _ d _ _ h=>by cases d <;> exact h) (by kernel_rfl) (by exact ⟨c2x,gd4⟩) ?_;intro ops hops';have hops:=hZ hops';clear hops';have ND:=hZ (N4.out.ext (Ext.drew (Ext.refl w4)));have gd5:(World.drew w4).cell? ⟨db,dof+q,none⟩=some (.int .i64 a):=gd4;have zd5:db < (World.drew w4).heap.size:=zd4;generalize World.drew w4=wd at ND gd5 zd5 ⊢;clear c2x gd4 zd4 N4;refine' tkS hops ?_;refine' tkS hops ?_;refine' tkS hops ?_;refine' tkT hops ?hy3_4 ?_
        case hy3_4=>(intro w hSw;(obtain ⟨s1,s2⟩:=hSw);go_simp;try with_reducible rfl)
        refine layy ?_;refine' tkS hops ?_;refine' tkS hops ?_;refine' tkS hops ?_;refine' tkT hops ?hy7_8 ?_
        case hy7_8=>(intro w hSw;(obtain ⟨s1,s2⟩:=hSw);go_simp;try with_reducible rfl)
        refine layy ?_;refine' tkS hops ?_;refine' tkS hops ?_;refine' tkS hops ?_;refine' tkT hops ?hy11_12 ?_
        case hy11_12=>(intro w hSw;(obtain ⟨s1,s2⟩:=hSw);go_simp;try with_reducible rfl)
        refine layy ?_;refine' tkS hops ?_;refine' tkS hops ?_;refine' tkS hops ?_;refine' tkT hops ?hy15_16 ?_
        case hy15_16=>(intro w hSw;(obtain ⟨s1,s2⟩:=hSw);go_simp;try with_reducible rfl)
        refine layy ?_;refine' tkS hops ?_;refine' tkS hops ?_;refine' tkS hops ?_;have g0:=ND.out.word (j:=a) (x:=_) (by rw [EV.out];exact an) rfl;have fr0:=ND.out.words.froz a;have zg:=ND.out.words.lt;have N5:=hZ (ND.out.set (j:=a) (v:=0) (by show a < V2.length;rw [EV.out];exact an) (by omega) (by omega));refine PlanS.put (wd.setCell ⟨r.gb,a,none⟩ (.int .i64 0)) (by first | rfl | (rw [hops.out];rfl)) ?run19 ?hS19 ?next19
        case run19=>go_simp
        case hS19=>exact ⟨N5.out.len (by simp;exact EV.out),(((But.refl r.own wd).setCell (.inl r.gb_own) _).cell zd5 DBN.out _).trans gd5⟩
        refine layy ?_;have gd6:=(((But.refl r.own wd).setCell (p:=⟨r.gb,a,none⟩) (.inl r.gb_own) (.int .i64 0)).cell zd5 DBN.out (dof+q)).trans gd5;have zd6:db < (wd.setCell ⟨r.gb,a,none⟩ (.int .i64 0)).heap.size:=by simp;exact zd5
        generalize wd.setCell ⟨r.gb,a,none⟩ (.int .i64 0)=we at N5 gd6 zd6 ⊢;clear g0 fr0 zg gd5 zd5 ND;refine' tkS hops ?_;have g0:=N5.out.word (j:=a+1) (x:=_) (by simp;rw [EV.out];exact an1) rfl;have fr0:=N5.out.words.froz (a+1);have zg:=N5.out.words.lt;have N6:=hZ (N5.out.set (j:=a+1) (v:=(wk:Int)) (by simp;rw [EV.out];exact an1) (by omega) (by omega));refine PlanS.put (we.setCell ⟨r.gb,a+1,none⟩ (.int .i64 wk)) (by first | rfl | (rw [hops.out];rfl)) ?run21 ?hS21 ?next21
        case run21=>go_simp
        case hS21=>exact ⟨N6.out.len (by simp;exact EV.out),(((But.refl r.own we).setCell (.inl r.gb_own) _).cell zd6 DBN.out _).trans gd6⟩
        refine layy ?_;refine PlanS.done ?_;clear g0 fr0 zg gd6 zd6 N5 y1 y2 y3 y4
        go_wp2_with fail
        go_roundg (i-(q+1))
        case measure=>omega
        case rel=>exact ⟨q+1,_,by omega,Nat.le_refl _,by go_num,hZ (by rw [ET.out];exact MK2.out),N6⟩
      have:q=i:=by omega
      subst this;have tk:decide ((q:Int) < (q:Int))=false:=dF
      have MR:=hZ (rMerge (S:=S') (W:=V2) (show RW wr r { S' with words:=V2 } from NM.out.toRW.to MD.out.coll.sizes MD.out.coll.order rfl) HW3.out (MG.out V2 (by
       have:=MK.out;rw [List.take_of_length_le (by rw [EDL.out];exact Nat.le_refl _)] at this;exact this)))
      go_wp2_with (go_at_call 150;refine MR.out.mono ?_;rintro e w7 ⟨rfl,hN7⟩)
      go_returns;exact ⟨by rw [EDL.out];rfl,TOT.out.trans ((NM.out.to rfl rfl rfl).trans hN7)⟩
set_option maxHeartbeats 2000000 in
theorem rMoving {d:Nat} {lt:List Int} (hl:SliceAt w p c l) (ht:SliceAt w q d lt) (hlen:lt.length=l.length) {y:Int} (hk:Hp.rd l k=some x) (hf:∀ j,j < k->Hp.rd l j ≠ some x) (hv:Hp.rd lt k=some y) :
    Calls Tryz.prog 151 #[.slice p l.length c,.slice q lt.length d,.int .i64 x] w fun e w'=>e = .returned (.int .i64 y)/\Ext w w':=by
  have hkl:=rd_lt hk;have hle:=hl.le;have hcap:=hl.cap;have tle:=ht.le;have tcap:=ht.cap;rw [hlen] at tle ⊢;have H:=hZ hl;have HT:=hZ ht;have HK:=hZ hk;have HF:=hZ hf;have HV:=hZ hv;have HLN:=hZ hlen;clear hl ht hk hf hv hlen;generalize hL:l.length=n at hle hkl tle ⊢;have HL:=hZ hL;clear hL;go_enter Tryz.func151,Tryz.ntmps151
  go_wp2_with fail
  go_loopg [7] n (fun g i wr=>∃ j:Nat,j<=k/\n-j<=g/\i = .int .i64 j/\Hid (Ext w wr))
  case atStart=>exact ⟨0,Nat.zero_le _,by omega,rfl,hZ (Ext.refl w)⟩
  case round=>
   obtain ⟨j,hj,hg,rfl,E⟩:=hrel;obtain ⟨z,hz⟩:=rd_get (l:=l) (j:=j) (by rw [HL.out];omega);obtain ⟨bb,o,hp,hbb,hc⟩:=(H.out.ext E.out).cells (by rw [HL.out];omega);have g1:=hc j z hz;have tk:decide ((j:Int) < (n:Int))=true:=dT;have HZ:=hZ hz;clear hc hz;subst hp
   by_cases hjk:j=k
   . subst hjk;have hzx:z=x:=by
      have:=HZ.out;rw [HK.out] at this;exact (Option.some.inj this).symm
     have t0:(z == x)=true:=by simpa using hzx
     obtain ⟨tb,to',tp,tbb,tc⟩:=(HT.out.ext E.out).cells (by have:=HLN.out;have:=HL.out;omega);have g2:=tc j y HV.out;clear tc hzx;subst tp
     go_wp2_with fail
     go_returns;exact ⟨rfl,E.out⟩
   have hzx:z ≠ x:=by
    intro e;exact HF.out j (by omega) (by rw [HZ.out,e])
   have t0:(z == x)=false:=by simpa using hzx
   clear hzx
   go_wp2_with fail
   go_roundg (n-(j+1))
   case measure=>omega
   case rel=>exact ⟨j+1,by omega,Nat.le_refl _,by go_num,E⟩
def RCPost (w:World) (r:Rd) (S1 S2:Hp.Hs) (M:List (Nat × Int)) (e:Ending) (w':World):Prop:=
 ∃ mv p c b0 g,e = .returned (.slice p (Hp.pairsOf mv S1.taken).length c)/\w.heap.size<=b0/\Row w' b0 p c (Hp.pairsOf mv S1.taken)/\w.heap.size<=g/\RW w' { r with gb:=g,wc:=S2.words.length } S2/\But r.own w w'/\Hp.Moved S1 S2 M mv
theorem But.but_ {l:List Nat} {L:List Int} (h:Row w base p c L) (k:But l w w') (hf:∀ b o,p=some ⟨b,o,none⟩->b ∉ l):SliceAt w' p c L:=h.at_.but k hf
theorem WordsAt.sub (h:WordsAt w g W) (hn:i+n<=W.length) (h1:W.length<=c) (h2:c<=9223372036854775807):SliceAt w (some ⟨g,i,none⟩) (c-i) (Hp.cut (Hp.ow W) i n):=by
 refine ⟨by rw [Hp.cut_length];omega,by omega,fun x hx=>?_,fun _=>⟨g,i,rfl,h.lt,fun j x hx=>?_⟩⟩
 . obtain ⟨k,hk,rfl⟩:=Hp.mem_cut.1 hx;exact h.bound (Hp.rd_ow (j:=i+k) (by omega))
 have hj:=rd_lt hx
 rw [Hp.cut_length] at hj
 unfold Hp.rd at hx
 rw [Hp.cut_get hj] at hx
 cases hx
 exact h.get (Hp.rd_ow (by omega))
theorem Hp.Filling.cut {m:Nat->Nat} {V0:List Int} (F:Hp.Filling S m a V0 (Hp.wz S.sizes (Hp.ow S.words a)-4) V):Hp.cut (Hp.ow V) (m a+4) (Hp.wz S.sizes (Hp.ow S.words a)-4)=Hp.nz (Hp.ow S.words) S.sizes m a:=by
 refine List.ext_getElem (by rw [Hp.cut_length,Hp.nz_length]) fun i h1 h2=>?_
 rw [Hp.cut_length] at h1
 have e1:=Hp.cut_get (f:=Hp.ow V) (i:=m a+4) h1
 rw [List.getElem?_eq_getElem (by rw [Hp.cut_length];exact h1)] at e1
 have e2:=F.fld i h1
 rw [List.getD_eq_getElem?_getD,List.getElem?_eq_getElem h2] at e2
 rw [Option.some.inj e1,e2]
 rfl
theorem But.widen {l l':List Nat} {a b c:World} (h:But l a b) (k:But l' b c) (hl:∀ x ∈ l',x ∈ l \/ a.heap.size<=x):But l a c:=
 ⟨k.os.trans h.os,k.tape.trans h.tape,k.output.trans h.output,Nat.le_trans h.size k.size,fun i hi hn=>(k.block i (Nat.lt_of_lt_of_le hi h.size) (fun hm=>(hl i hm).elim hn (fun h=>by omega))).trans (h.block i hi hn)⟩
theorem setCell_same {v u:Value} (h:w.cell? ⟨b,i,none⟩=some v) (hj:i ≠ j):(w.setCell ⟨b,j,none⟩ u).cell? ⟨b,i,none⟩=some v:=by
 have z:=cell_lt h
 go_simp
theorem RW.hand {w3 wz:World} {rx:Rd} {S1 S2:Hp.Hs} (N3:RW w3 r S1) (hE:Ext w3 wz) (NX:RW wz rx { S1 with words:=V }) (hgx:w3.heap.size<=rx.gb) (hV:V.length=n) (hn:n<=100000) (hz:S2.sizes=S1.sizes) (ho:S2.order=S1.order) :
    RW (wz.setCell ⟨r.rb,2,none⟩ (.slice (some ⟨rx.gb,0,none⟩) n n)) { r with gb:=rx.gb,wc:=n } { S2 with words:=V }:=by
  have h:=N3.ext hE;have z3:=N3.lt;have z:=h.lt;have c2:=h.c2;have f2:=h.f2;have k:But [r.rb] wz (wz.setCell ⟨r.rb,2,none⟩ (.slice (some ⟨rx.gb,0,none⟩) n n)):=(But.refl _ _).setCell (by simp) _;have far:∀ {p:Option Addr} {c:Nat} {l:List Int},SliceAt w3 p c l->(0 < l.length -> ∀ b o,p=some ⟨b,o,none⟩->b ∉ r.own)->0 < l.length -> ∀ b o,p=some ⟨b,o,none⟩->b ∉ [r.rb,rx.gb]:=by
   intro p c l hs hf h0 b o e hm;obtain ⟨b',o',e',hb,_⟩:=hs.cells h0;have hf:=hf h0 b o e;rw [e'] at e
   cases e
   simp only [List.mem_cons,List.not_mem_nil,or_false] at hm
   rcases hm with rfl | rfl
   . exact hf r.rb_own
   omega
  exact
   { c0:=by rw [hz];exact setCell_same h.c0 (by omega)
     c1:=by rw [ho];exact setCell_same h.c1 (by omega)
     c2:=by
      show World.cell? _ ⟨r.rb,2,none⟩=some (.slice (some ⟨rx.gb,0,none⟩) V.length n);rw [hV];go_simp
     f2:=by
      show World.frozen? _ ⟨r.rb,2,none⟩=false;go_simp
     sizes:=by
      rw [hz];exact h.sizes.but1 k fun h0 b o e hm=>h.far1 h0 b o e (by simp at hm;subst hm;exact r.rb_own)
     order:=by
      rw [ho];exact h.order.but1 k fun h0 b o e hm=>h.far2 h0 b o e (by simp at hm;subst hm;exact r.rb_own)
     words:=NX.words.but k (by simp;omega)
     le:=by show V.length<=n;omega
     cap:=by show n<=_;omega
     go:=h.go
     apart:=by show r.rb ≠ rx.gb;omega
     far1:=by rw [hz];exact far N3.sizes N3.far1
     far2:=by rw [ho];exact far N3.order N3.far2 }
namespace Hp
section
variable {S:Hs} {B:Nat} {L:List Tl} {ch:Nat->List Nat} {m:Nat->Nat} {a k:Nat}
theorem lt20 (h:Wf S B L ch) (ha:a ∈ S.taken):decide (ow S.words a < 20) = !isEnd (ow S.words a):=by
 have hot:=h.cells.tags a ha
 cases he:isEnd (ow S.words a) with
 | true=>
  simp only [isEnd,within,Bool.and_eq_true,decide_eq_true_eq] at he;simp only [Bool.not_true,decide_eq_false_iff_not];omega
 | false=>
  have hnd:=isNode_of hot he;simp only [isNode,within,Bool.and_eq_true,decide_eq_true_eq] at hnd;have:=h.fr.few;simp only [Bool.not_false,decide_eq_true_eq];omega
theorem nz_end (he:isEnd (ow S.words a)=true) (hk:k < wz S.sizes (ow S.words a)-4):(nz (ow S.words) S.sizes m a).getD k 0=ow S.words (a+4+k):=by
 unfold nz
 rw [if_pos he,List.getD_eq_getElem?_getD]
 unfold fz
 rw [cut_get hk]
 rfl
theorem nz_node (h:Wf S B L ch) (ha:a ∈ S.taken) (he:isEnd (ow S.words a)=false) (hk:k < wz S.sizes (ow S.words a)-4):∃ b,b ∈ S.taken/\ow S.words (a+4+k)=(b:Int)/\(nz (ow S.words) S.sizes m a).getD k 0=(m b:Int):=by
 have e:(fz (ow S.words) S.sizes a)[k]? = some (ow S.words (a+4+k)):=by unfold fz;exact cut_get hk
 have hm:ow S.words (a+4+k) ∈ kz (ow S.words) S.sizes a:=by
  unfold kz;rw [if_neg (by rw [he];simp)];exact List.mem_of_getElem? e
 obtain ⟨b,hb,ex,_⟩:=h.cells.kids a ha _ hm
 refine ⟨b,hb,ex, ?_⟩
 unfold nz
 rw [if_neg (by rw [he];simp),List.getD_eq_getElem?_getD,List.getElem?_map,e,ex]
 simp [to']
end
end Hp
theorem cellsI_at (h:S.taken[i]? = some b):Hp.rd (cellsI S) i=some (b:Int):=by
 obtain ⟨a,_,ha,e⟩:=cellsI_rd (S:=S) (List.getElem?_eq_some_iff.1 h).1
 rw [h] at ha
 cases ha
 exact e
theorem cellsI_first (hn:S.taken.Nodup) (h:S.taken[i]? = some b) (j:Nat) (hj:j < i):Hp.rd (cellsI S) j ≠ some (b:Int):=by
 intro e
 have hi:=(List.getElem?_eq_some_iff.1 h).1
 obtain ⟨a,_,ha,e'⟩:=cellsI_rd (S:=S) (j:=j) (by omega)
 rw [e] at e'
 have:a=b:=by
  have:=Option.some.inj e';omega
 subst this
 obtain ⟨h1,e1⟩:=List.getElem?_eq_some_iff.1 h
 obtain ⟨h2,e2⟩:=List.getElem?_eq_some_iff.1 ha
 have:=List.pairwise_iff_getElem.1 hn j i h2 h1 hj
 exact this (e2.trans e1.symm)
theorem cutW {P:Program} {c:Code} {Q:Exit->Act->World->Prop} {a:Act} {F:World->Prop} (h:F w) (k:∀ w',F w'->c.wp P Q a w'):c.wp P Q a w:=k w h
end Go.Proofs.YtdokmmhjmclmnaaGreat
