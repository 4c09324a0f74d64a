/-
  Part 26 of a proof: LD6 LH17 LD7 LD8 LD9 LL1.
-/
import Derived.Test.YtdokmmhjmclmnaaGreatMV03
import Derived.Test.YtdokmmhjmclmnaaGreatMV06
import Derived.Test.YtdokmmhjmclmnaaGreatMV11
import Derived.Test.YtdokmmhjmclmnaaGreatMV15
import Derived.Test.YtdokmmhjmclmnaaGreatMV19
import Derived.Test.YtdokmmhjmclmnaaGreatMV25
set_option linter.unusedSimpArgs false
set_option linter.unusedVariables false
set_option linter.unusedSectionVars false
set_option linter.unnecessarySimpa false
namespace Go.Proofs.YtdokmmhjmclmnaaGreat
variable {W' w w' w0 wb:World} {B a b base c cap ce cn f g gb i j k lb m n oc s sc:Nat} {choice t x:Int} {G W fs l o xs z:List Int} {L:List Hp.Tl} {r:Rd} {S S':Hp.Hs} {A N T:List Nat} {M:List (Nat × Int)} {op p pe pn q sp:Option Addr} {d:Hd} {acts:List Hp.Act'}
open Go.RowKit Go.Maps
theorem MapIAt.lookOk {P:Program} {t:TypeId} (h:MapIAt P w g M) (hk:P.underlying 3=some (.int .i64)) (ht:P.underlying t=some (.map 3 3)) (hz:(zeroValue 3).run P w = .ok (.int .i64 0) w) (hk2:(k:Int)<=9223372036854775807) :
    (Instr.lookup t (.map (some g)) (.int .i64 k) true).run P w = .ok (.tuple #[.int .i64 ((getI k M).getD 0),.bool (getI k M).isSome]) w:=by
  have wf:(Lit.int .i64 k).wf=true:=WalkArith.wf_i64 (by omega);obtain ⟨v,ps,hrun,hv⟩:=h.owns.look_ok (int_keyed hk) ht hz (plainElem_int hk (by decide)) (keyOf_int_mk hk wf);obtain ⟨c,rfl,hc,hwc⟩:=plainElem_int_inv hk hv;rw [hrun];have e1:Maps.has (mapOfI M) (.int .i64 k)=(getI k M).isSome:=by
   cases hh:(getI k M).isSome with
   | true=>exact (has_mapOfI M _).2 ⟨k,rfl,hh⟩
   | false=>
    cases hq:Maps.has (mapOfI M) (.int .i64 k) with
    | false=>rfl
    | true=>
     obtain ⟨n,e,hn⟩:=(has_mapOfI M _).1 hq;injection e with _ e
     have:n=k:=by omega
     subst this;rw [hh] at hn
     cases hn
  have e2:c=(getI k M).getD 0:=by
   simp only [Prod.mk.injEq] at hc;have hat:=hc.1;rw [at_mapOfI] at hat
   cases hg:getI k M with
   | none=>
    rw [hg] at hat;simp only at hat;injection hat with hat
    injection hat with _ hat
    exact hat.symm
   | some v=>
    rw [hg] at hat;simp only at hat;injection hat with hat
    injection hat with _ hat
    exact hat.symm
  rw [e1,e2]
theorem cells2 {x y:Value} (h0:w.cell? ⟨b,0,none⟩=some x) (h1:w.cell? ⟨b,1,none⟩=some y):∀ (i:Nat) (v:Value),[x,y][i]? = some v->w.cell? ⟨b,i,none⟩=some v
 | 0,v,h=>by simp at h;rw [<- h];exact h0
 | 1,v,h=>by simp at h;rw [<- h];exact h1
 | i+2,v,h=>by simp at h
def FromPost (wb w:World) (i:Dd) (l0:List Nat) (D1:Hp.Dg) (x:Int) (K0:List (Nat × Nat)) (e:Ending) (w':World):Prop:=
 e = .returned (.int .i64 x) /\ ∃ pe ce pn cn K,DgSt wb w' i D1 pe ce pn cn K/\But l0 w w'/\(∀ b ∈ i.dyn pe pn,b ∈ l0 \/ w.heap.size<=b) /\ ∀ b ∈ K.map Prod.fst,b ∈ K0.map Prod.fst \/ w.heap.size<=b
def Dd.args (i:Dd) (a:Nat):Array Value:=#[.int .i64 a,.pointer (some ⟨i.kb,0,none⟩),.pointer (some ⟨i.hx,0,none⟩),.pointer (some ⟨i.gd,0,none⟩),.pointer (some ⟨i.fb,0,none⟩)]
set_option maxRecDepth 100000 in
theorem from_known {i:Dd} {D:Hp.Dg} {K:List (Nat × Nat)} (h:DgSt wb w i D pe ce pn cn K) (ha:a<=1000000) (hk:getI a D.known=some x) :
    Calls Tryz.prog 81 (i.args a) w (FromPost wb w i (i.dyn pe pn) D x K):=by
  have H:=hZ h;have k1:=h.k;have hlk:=h.map.lookOk (t:=119) Tryz.underlying3 Tryz.underlying119 (Tryz.zeroValue3 w) (k:=a) (by omega);rw [hk] at hlk;simp only [Option.getD_some,Option.isSome_some] at hlk;clear h hk;unfold Dd.args;go_enter Tryz.func81,Tryz.ntmps81
  go_wp2_with fail
  go_returns;exact ⟨rfl,pe,ce,pn,cn,K,H.out,But.refl _ _,fun b hb=>.inl hb,fun b hb=>.inl hb⟩
set_option maxRecDepth 100000 in
set_option maxHeartbeats 8000000 in
theorem from_end {ch:Nat->List Nat} {i:Dd} {D:Hp.Dg} {K:List (Nat × Nat)} (hA:HAt wb d S) (hw:Hp.Wf S B L ch) (hb:d.hb=i.hb) (h:DgSt wb w i D pe ce pn cn K) (ha:a ∈ S.taken) (hk:getI a D.known=none) (he:Hp.isEnd (Hp.ow S.words a)=true) (hn:D.known.length<=100000) (hne:D.ends.length<=100000) :
    Calls Tryz.prog 81 (i.args a) w (FromPost wb w i (i.dyn pe pn) ⟨putI a (-((D.ends.length:Int)+1)) D.known,D.ends ++ [(Hp.ow S.words a-20,Hp.ow S.words (a+4))],D.nodes⟩ (-((D.ends.length:Int)+1)) K):=by
  have pa:=hw.part ha;have hhi:=hw.hi;obtain ⟨f,hf⟩:∃ f:Nat,Hp.ow S.words a=20+f:=by
   simp only [Hp.isEnd,Hp.within,Bool.and_eq_true,decide_eq_true_eq] at he;exact ⟨(Hp.ow S.words a-20).toNat,by omega⟩
  have AT:=hZ (fun W (hE:Ext w W)=>At_end_f ((hA.ext h.ext).ext hE) hw ha hf he);rw [show Hp.ow S.words a-20=(f:Int) by omega];obtain ⟨v,hv⟩:∃ v,Hp.ow S.words (a+4)=v:=⟨_,rfl⟩
  rw [hv] at AT ⊢;rw [hb] at AT;obtain ⟨ne,hne'⟩:∃ ne,D.ends.length=ne:=⟨_,rfl⟩
  have H:=hZ h;have k1:=h.k;have k2:=h.h;have z1:=cell_lt k1;have z2:=cell_lt k2;have hlk:=h.map.lookOk (t:=119) Tryz.underlying3 Tryz.underlying119 (Tryz.zeroValue3 w) (k:=a) (by omega);rw [hk] at hlk;simp only [Option.getD_none,Option.isSome_none] at hlk;have HN:=hZ hn;have NE:=hZ hne';rw [hne'] at hne ⊢;clear h hA hw hb hf he hv hk hn hne';unfold Dd.args;go_enter Tryz.func81,Tryz.ntmps81;go_upto_region 5 with (go_at_call 22;refine (AT.out _ (exx)).mono ?_;rintro e w1 ⟨rfl,hb1⟩)
  refine cut_world (F:=fun W=>Hid (Ext w W)/\W.cell? ⟨w1.heap.size,0,none⟩=some (.int .i64 (-1))/\W.cell? ⟨w1.heap.size+1,0,none⟩=some (.int .u8 f)/\W.cell? ⟨w1.heap.size+1,1,none⟩=some (.int .i64 v)) ⟨hZ (exx), ?a1, ?a2, ?a3⟩ ?rest
  case a1=>go_simp
  case a2=>go_simp
  case a3=>go_simp
  case rest=>
  intro w2 ⟨E2,g1,g2,g3⟩;have N:=hZ (H.out.ext' E2.out);clear hb1 k1 k2 hlk z1 z2;generalize w1.heap.size+1=bv at g2 g3 ⊢;generalize w1.heap.size=bb at g1 ⊢;have d2:=N.out.d2;have f2:=N.out.z2;rw [NE.out] at d2;have zd:=cell_lt d2;have zv:=cell_lt g2;go_upto_region 7 with (at_builtin;refine wpList_append_N rfl _ _ 46 43 rfl (z:=.agg #[.int .u8 0,.int .i64 0]) (n:=2) (bytes:=16) Tryz.underlying46 (by kernel_rfl) rfl (by decide) (by decide) (m:=ne) (by rw [List.length_map,NE.out]) rfl rfl (N.out.er.ext (exx)) (y:=endC ((f:Int),v)) rfl (cells2 (by go_simp) (by go_simp)) (by simp [endC,Value.oneCell']) (by omega) ?_;intro g cap w3 row hR hG hrow hg hlt;have Na:=N.out.ext' (show Ext w2 (w2.alloc (.cells #[.int .u8 f,.int .i64 v] 43)) from exx);obtain ⟨q2,r2⟩:=Na.store2 hG hrow;have NB:=hZ (Na.end_ (v:=((f:Int),v)) hR hG hrow hg hlt);rw [NE.out] at NB;have GI:=hZ (show g ∈ blk pe \/ w2.heap.size<=g from hg.imp (fun e=>by rw [e];simp [blk]) (fun e=>by rw [e];simp));clear Na hR hG hrow hg hlt)
  obtain ⟨N4,B4⟩:=NB.out;refine cut_world (F:=fun W=>Hid (DgSt wb W i { D with ends:=D.ends ++ [((f:Int),v)] } (some ⟨g,0,none⟩) cap pn cn K/\But (i.gd :: blk pe) (w2.alloc (.cells #[.int .u8 f,.int .i64 v] 43)) W)) (hZ ⟨N4,B4⟩) ?_;intro w4 NN;clear NB N4 B4 q2 r2;have k4:=NN.out.1.k;have d4:=NN.out.1.d2;simp only [List.length_append,List.length_cons,List.length_nil,NE.out,Nat.zero_add] at d4;have w1':wrap64 (-((ne:Int)+1)) = -((ne:Int)+1):=IntWalk.wrap64_in _ ⟨by omega,by omega⟩;have w2':IntKind.i64.wrap (-((ne:Int)+1)) = -((ne:Int)+1):=IntWalk.i64_in _ ⟨by omega,by omega⟩;obtain ⟨w5,hup,hm5,ht5⟩:=NN.out.1.map.put (t:=119) Tryz.underlying3 Tryz.underlying119 (by have:=HN.out;unfold maxLen;simp only;omega) (a:=a) (x:=-((ne:Int)+1)) (by omega) (by omega) (by omega);have B5:But [i.gk] w4 w5:=(But.refl _ _).turned ht5 (.inl (by simp));have N5:=hZ (NN.out.1.known_ B5 hm5);have hlk:=N5.out.map.look (t:=119) Tryz.underlying3 Tryz.underlying119 (Tryz.zeroValue3 w5) (k:=a) (by omega);rw [getI_put (M:=D.known) (H.out.map.up),if_pos rfl] at hlk;simp only [Option.getD_some] at hlk;have k5:=N5.out.k;have HB5:=hZ B5;clear hm5 ht5 B5
  go_wp2_with fail
  go_returns;refine ⟨rfl,_,_,_,_,_,N5.out, ?_, ?_,fun b hb=>.inl hb⟩
  . have b1:But (i.dyn pe pn) w w2:=But.ofExt E2.out;have b2:But (i.dyn pe pn) w (w2.alloc (.cells #[.int .u8 f,.int .i64 v] 43)):=b1.alloc _;have b3:=b2.trans (NN.out.2.mono (l':=i.dyn pe pn) (fun x hx=>by
     rcases List.mem_cons.1 hx with rfl | hx
     . exact DgSt.gd_dyn _ _ _
     . exact DgSt.pe_dyn _ hx))
    exact b3.trans (HB5.out.mono (fun x hx=>by rw [List.mem_singleton.1 hx];exact DgSt.gk_dyn _ _ _))
  intro b hb;simp only [Dd.dyn,blk,List.mem_cons,List.mem_append,List.not_mem_nil,or_false] at hb ⊢
  rcases hb with hb | hb | rfl | hb
  . exact .inl (.inl hb)
  . exact .inl (.inr (.inl hb))
  . rcases GI.out with h | h
    . exact .inl (.inr (.inr (.inl h)))
    exact .inr (Nat.le_trans E2.out.le h)
  exact .inl (.inr (.inr (.inr hb)))
theorem But.over {l l':List Nat} {a b c:World} (h:But l a b) (k:But l' b c) (hl:∀ x ∈ l',x ∈ l \/ a.heap.size<=x):But l a c:=
 ⟨k.os.trans h.os,k.tape.trans h.tape,k.output.trans h.output,Nat.le_trans h.size k.size,fun i hi hn=>(k.block i (Nat.lt_of_lt_of_le hi h.size) (fun hm=>by
  rcases hl i hm with hm | hm
  . exact hn hm
  . omega)).trans (h.block i hi hn)⟩
structure DoAt (wb w:World) (d0 d:Hd) (S:Hp.Hs) (A:List Int) (p:Option Addr) (k:Nat):Prop extends HAt w d S where
 but0:But d0.own wb w
 own0:∀ b ∈ d.own,b ∈ d0.own \/ wb.heap.size<=b
 row:Row w 0 p k A
 n:∀ b o,p=some ⟨b,o,none⟩->wb.heap.size<=b/\b ∉ d.own
 spn:∀ b o,d.sp=some ⟨b,o,none⟩->b < wb.heap.size
 opn:∀ b o,d.op=some ⟨b,o,none⟩->b < wb.heap.size
namespace DoAt
variable {wb w w':World} {d0 d:Hd} {S:Hp.Hs} {A:List Int} {p:Option Addr} {k:Nat}
theorem ext (h:DoAt wb w d0 d S A p k) (e:Ext w w'):DoAt wb w' d0 d S A p k:=
 { h with
   toHAt:=h.toHAt.ext e
   but0:=h.but0.ext e
   row:=h.row.ext e }
theorem turn (h:DoAt wb w d0 d S A p k) (hb:But d.own w w') (hA:HAt w' { d with gw:=g,cap:=cap } S') (hg:g=d.gw \/ w.heap.size<=g):DoAt wb w' d0 { d with gw:=g,cap:=cap } S' A p k:=by
 have e0:=h.but0.size
 have own:∀ b ∈ ({ d with gw:=g,cap:=cap }:Hd).own,b ∈ d.own \/ w.heap.size<=b:=fun b hb=>by
  simp only [Hd.own,List.mem_cons,List.not_mem_nil,or_false] at hb ⊢
  rcases hb with rfl | rfl | rfl
  . exact .inl (.inl rfl)
  . rcases hg with rfl | hg
    . exact .inl (.inr (.inl rfl))
    exact .inr hg
  exact .inl (.inr (.inr rfl))
 exact
  { toHAt:=hA
    but0:=h.but0.over hb h.own0
    own0:=fun b hb=>by
     rcases own b hb with hm | hm
     . exact h.own0 b hm
     exact .inr (by omega)
    row:=h.row.but_ hb (fun b o e=>(h.n b o e).2)
    n:=fun b o e=>⟨(h.n b o e).1,fun hm=>by
     rcases own b hm with hm | hm
     . exact (h.n b o e).2 hm
     . have:=h.row.lt e;omega⟩
    spn:=h.spn
    opn:=h.opn }
theorem rowed (h:DoAt wb w d0 d S A p k) {l:List Nat} (hb:But l w w') (hl:∀ b ∈ l,wb.heap.size<=b/\b ∉ d.own):HAt w' d S/\But d0.own wb w':=by
 refine ⟨h.toHAt.but hb (fun hm=>(hl _ hm).2 d.hb_own) (fun hm=>(hl _ hm).2 d.gw_own) (fun hm=>(hl _ hm).2 d.gm_own) (fun b o e hm=>by have:=(hl b hm).1;have:=h.spn b o e;omega) (fun b o e hm=>by have:=(hl b hm).1;have:=h.opn b o e;omega), ?_⟩
 exact h.but0.over hb fun b hm=>.inr (hl b hm).1
theorem grow (h:DoAt wb w d0 d S A p k) {row:Option Nat} (hR:Row w' 0 (some ⟨g,0,none⟩) cap l) (hG:w.grownBy w' row) (hrow:∀ q,row=some q->p=some ⟨q,0,none⟩) (hg:p=some ⟨g,0,none⟩ \/ g=w.heap.size) :
    DoAt wb w' d0 d S l (some ⟨g,0,none⟩) cap:=by
  have kb:But row.toList w w':=⟨hG.os,hG.tape,hG.output,hG.size,fun i hi hn=>hG.block i hi (fun e=>hn (by rw [<- e];simp))⟩
  have own:=h.toHAt.own_lt;obtain ⟨a1,a2⟩:=h.rowed kb (fun x hx=>by
   have e:row=some x:=by simpa using hx
   exact h.n x 0 (hrow x e))
  exact
   { toHAt:=a1,but0:=a2,own0:=h.own0,row:=hR,spn:=h.spn,opn:=h.opn
     n:=fun b o e=>by
      cases e
      rcases hg with hg | hg
      . exact h.n g 0 hg
      . have:=h.but0.size;exact ⟨by omega,fun hm=>by have:=own g hm;omega⟩ }
end DoAt
theorem Row.froz (h:Row w base p c l) (hp:p=some ⟨b,0,none⟩):w.frozen? ⟨b,j,none⟩=false:=by
 rcases h.1.2 with ⟨e,_⟩ | ⟨g,cap',cur,e,_,hgb,_⟩
 . injection e with e1
   rw [hp] at e1
   cases e1
 injection e with e1
 rw [hp] at e1
 cases e1
 simp [World.frozen?,hgb]
theorem Row.cell_ (h:Row w base p c l) (hp:p=some ⟨b,0,none⟩) (hx:Hp.rd l j=some x):w.cell? ⟨b,j,none⟩=some (.int .i64 x):=by
 subst hp
 have:=h.at_.cell_ hx
 rwa [Nat.zero_add] at this
open Go.RowKit Go.Maps
section
variable {P:Program} {ops:Array Oper} {Q:Exit->Act->World->Prop} {md:Region.Mode} {S:World->Prop}
theorem wpAnyE_call {oi:Oper} {fuel:Nat} {listed:Array Bool} {a:Act} {f:FuncId} {args:Array Value} (i:Nat) (hi:ops[i]? = some oi) (hr:Region.ready md ops listed=[i]) (hw:Region.wanted oi (yielded ops a.tmps)=true)
    (hrun:(execOp a.eval oi).run P w = .ok (.enter f args) w) (hc:Calls P f args w fun e w'=>∃ v,e = .returned v/\S w'/\wpAnyR P md ops Q S Eq fuel (listed.setIfInBounds i true) (a.put oi.dst v) w'):wpAnyR P md ops Q S Eq (fuel+1) listed a w:=by
  intro w' r s;subst r;refine ⟨fun e=>(by rw [hr] at e;cases e),fun j hj=>?_⟩
  rw [hr] at hj;rw [List.mem_singleton.1 hj];unfold Go.wpOp;simp only [hi];rw [if_pos hw];refine .inl ?_;unfold Oper.wp;rw [hrun];refine hc.mono ?_;rintro e w'' ⟨v,rfl,hk⟩;exact hk
theorem wpAnyE_put {oi:Oper} {fuel:Nat} {listed:Array Bool} {a:Act} (i:Nat) (hi:ops[i]? = some oi) (hr:Region.ready md ops listed=[i]) (hw:Region.wanted oi (yielded ops a.tmps)=true)
    (hrun:(execOp a.eval oi).run P w = .ok .skip w') (hS:S w') (h:wpAnyR P md ops Q S Eq fuel (listed.setIfInBounds i true) (a.put oi.dst undef) w'):wpAnyR P md ops Q S Eq (fuel+1) listed a w:=by
  intro w2 r s;subst r;refine ⟨fun e=>(by rw [hr] at e;cases e),fun j hj=>?_⟩
  rw [hr] at hj;rw [List.mem_singleton.1 hj];unfold Go.wpOp;simp only [hi];rw [if_pos hw];refine .inl ?_;unfold Oper.wp;rw [hrun];exact ⟨hS,h⟩
end
theorem Hp.refs_snoc {f:Nat->Hp.Dg->Option (Int × Hp.Dg)}:∀ {l:List Nat} {k:Nat} {D D1 D2:Hp.Dg} {xs:List Int} {x:Int},Hp.refs f l D=some (xs,D1)->f k D1=some (x,D2)->Hp.refs f (l ++ [k]) D=some (xs ++ [x],D2)
 | [],k,D,D1,D2,xs,x,h,e=>by
  simp only [Hp.refs,Option.some.injEq,Prod.mk.injEq] at h;obtain ⟨rfl,rfl⟩:=h;simp [Hp.refs,e]
 | a :: r,k,D,D1,D2,xs,x,h,e=>by
  simp only [Hp.refs,Option.bind_eq_bind,Option.bind_eq_some_iff,Prod.exists,Option.some.injEq,Prod.mk.injEq] at h;obtain ⟨y,D3,e1,ys,D4,e2,rfl,rfl⟩:=h;have:=Hp.refs_snoc e2 e;simp [Hp.refs,e1,this]
structure KidSt (w wr:World) (i:Dd) (l0:List Nat) (K0:List (Nat × Nat)) (pe pn:Option Addr) (K:List (Nat × Nat)) (bb g c m:Nat) (v:Int) (R:List Int):Prop where
 but:But l0 w wr
 dyn:∀ b ∈ i.dyn pe pn,b ∈ l0 \/ w.heap.size<=b
 kk:∀ b ∈ K.map Prod.fst,b ∈ K0.map Prod.fst \/ w.heap.size<=b
 b0:wr.cell? ⟨bb,0,none⟩=some (.int .i64 v)
 b1:wr.cell? ⟨bb,1,none⟩=some (.slice (some ⟨g,0,none⟩) m c)
 row:Row wr 0 (some ⟨g,0,none⟩) c R
 new:w.heap.size<=bb/\w.heap.size<=g/\bb ≠ g
 far:∀ b,b=bb \/ b=g->b ∉ i.fixed/\b ∉ i.dyn pe pn/\b ∉ K.map Prod.fst
theorem KidSt.ext {wr:World} {i:Dd} {l0:List Nat} {K0 K:List (Nat × Nat)} {bb:Nat} {v:Int} {R:List Int} (h:KidSt w wr i l0 K0 pe pn K bb g c m v R) (k:Ext wr w'):KidSt w w' i l0 K0 pe pn K bb g c m v R:=
 { h with
   but:=h.but.ext k
   b0:=(k.cell (cell_lt h.b0) 0).trans h.b0
   b1:=(k.cell (cell_lt h.b0) 1).trans h.b1
   row:=Row.ext h.row k }
theorem KidSt.set_ {wr:World} {i:Dd} {l0:List Nat} {K0 K:List (Nat × Nat)} {bb:Nat} {v:Int} {R R':List Int} (h:KidSt w wr i l0 K0 pe pn K bb g c m v R) (hw:Hp.wr R j x=some R') (h1 : -9223372036854775808<=x) (h2:x<=9223372036854775807):KidSt w (wr.setCell ⟨g,j,none⟩ (.int .i64 x)) i l0 K0 pe pn K bb g c m v R':=by
 have k:But [g] wr (wr.setCell ⟨g,j,none⟩ (.int .i64 x)):=(But.refl _ _).setCell (.inl (by simp)) _
 have hb:bb ∉ [g]:=by simpa using h.new.2.2
 exact
  { h with
    but:=h.but.over k fun b hb=>by rw [List.mem_singleton.1 hb];exact .inr h.new.2.1
    b0:=(k.cell (cell_lt h.b0) hb 0).trans h.b0
    b1:=(k.cell (cell_lt h.b0) hb 1).trans h.b1
    row:=h.row.set rfl hw h1 h2 }
theorem KidSt.step {wr:World} {i:Dd} {l0:List Nat} {K0 K K':List (Nat × Nat)} {D':Hp.Dg} {pe' pn':Option Addr} {bb:Nat} {v:Int} {R:List Int} (h:KidSt w wr i l0 K0 pe pn K bb g c m v R) (_:DgSt wb w' i D' pe' ce pn' cn K')
    (hb:But (i.dyn pe pn) wr w') (hd:∀ b ∈ i.dyn pe' pn',b ∈ i.dyn pe pn \/ wr.heap.size<=b) (hk:∀ b ∈ K'.map Prod.fst,b ∈ K.map Prod.fst \/ wr.heap.size<=b):KidSt w w' i l0 K0 pe' pn' K' bb g c m v R:=by
  have zb:=cell_lt h.b0;have zg:g < wr.heap.size:=h.row.lt rfl;have hw:=h.but.size;refine ⟨?_,fun b hm=>?_,fun b hm=>?_,(hb.cell zb (h.far bb (.inl rfl)).2.1 0).trans h.b0,(hb.cell zb (h.far bb (.inl rfl)).2.1 1).trans h.b1,h.row.but_ hb (fun b' o e=>by cases e;exact (h.far g (.inr rfl)).2.1),h.new,fun b hx=>⟨(h.far b hx).1,fun hm=>?_,fun hm=>?_⟩⟩
  . exact h.but.over hb fun x hx=>h.dyn x hx
  . rcases hd b hm with hm | hm
    . exact h.dyn b hm
    exact .inr (by omega)
  . rcases hk b hm with hm | hm
    . exact h.kk b hm
    exact .inr (by omega)
  . rcases hd b hm with hm | hm
    . exact (h.far b hx).2.1 hm
    rcases hx with rfl | rfl <;> omega
  rcases hk b hm with hm | hm
  . exact (h.far b hx).2.2 hm
  rcases hx with rfl | rfl <;> omega
theorem Hp.refs_len {f:Nat->Hp.Dg->Option (Int × Hp.Dg)}:∀ {l:List Nat} {D D1:Hp.Dg} {xs:List Int},Hp.refs f l D=some (xs,D1)->xs.length=l.length
 | [],D,D1,xs,h=>by
  simp only [Hp.refs,Option.some.injEq,Prod.mk.injEq] at h;obtain ⟨rfl,rfl⟩:=h;rfl
 | a :: r,D,D1,xs,h=>by
  simp only [Hp.refs,Option.bind_eq_bind,Option.bind_eq_some_iff,Prod.exists,Option.some.injEq,Prod.mk.injEq] at h;obtain ⟨y,D3,e1,ys,D4,e2,rfl,rfl⟩:=h;simp [Hp.refs_len e2]
theorem kid_set {ks:List Int} {y:Int} (hx:xs.length=j) (hk:ks[j]? = some y):Hp.wr (xs ++ ks.drop j) j x=some ((xs ++ [x]) ++ ks.drop (j+1)):=by
 obtain ⟨hl,e⟩:=List.getElem?_eq_some_iff.1 hk
 unfold Hp.wr
 rw [if_pos (by simp;omega)]
 congr 1
 have e2:ks.drop j=ks[j] :: ks.drop (j+1):=List.drop_eq_getElem_cons hl
 rw [List.set_append_right _ _ (by omega),hx,Nat.sub_self,e2,List.set_cons_zero]
 simp
theorem kid_get {ks:List Int} {y:Int} (hx:xs.length=j) (hk:ks[j]? = some y):Hp.rd (xs ++ ks.drop j) j=some y:=by
 unfold Hp.rd
 rw [List.getElem?_append_right (by omega),hx,Nat.sub_self,List.getElem?_drop,Nat.add_zero]
 exact hk
set_option maxRecDepth 100000 in
set_option maxHeartbeats 16000000 in
theorem from_node {ch:Nat->List Nat} {i:Dd} {D D1:Hp.Dg} {K:List (Nat × Nat)} (hA:HAt wb d S) (hw:Hp.Wf S B L ch) (hb:d.hb=i.hb) (h:DgSt wb w i D pe ce pn cn K) (hD:Hp.DgOk S D) (ha:a ∈ S.taken) (hk:getI a D.known=none) (he:Hp.isEnd (Hp.ow S.words a)=false)
    (hn:∀ k ∈ (Hp.fz (Hp.ow S.words) S.sizes a).map Int.toNat,(S.order.length:Int)-Hp.rk S k < n)
    (IH:∀ k,k ∈ S.taken->(S.order.length:Int)-Hp.rk S k < n -> ∀ (w:World) (D D1:Hp.Dg) (pe pn:Option Addr) (ce cn:Nat) (K:List (Nat × Nat)) (x:Int),DgSt wb w i D pe ce pn cn K->Hp.DgOk S D->S.from' n k D=some (x,D1)->Calls Tryz.prog 81 (i.args k) w (FromPost wb w i (i.dyn pe pn) D1 x K))
    (hr:Hp.refs (S.from' n) ((Hp.fz (Hp.ow S.words) S.sizes a).map Int.toNat) D=some (xs,D1)) :
    Calls Tryz.prog 81 (i.args a) w (FromPost wb w i (i.dyn pe pn) ⟨putI a D1.nodes.length D1.known,D1.ends,D1.nodes ++ [(Hp.ow S.words a-1,xs)]⟩ D1.nodes.length K):=by
  have pa:=hw.part ha;have hhi:=hw.hi;have ht:=hw.tag_le ha;have hkid:=hw.kid_in ha he;have hkz:=hw.cells.kids a ha;have AT:=hZ (fun W (hE:Ext w W)=>At_node_f ((hA.ext h.ext).ext hE) hw ha he);have hml:(Hp.fz (Hp.ow S.words) S.sizes a).length<=20:=by rw [Hp.fz_length];omega
  obtain ⟨ks,hks⟩:∃ ks,Hp.fz (Hp.ow S.words) S.sizes a=ks:=⟨_,rfl⟩
  have hkz':∀ x ∈ ks,∃ b:Nat,x=b:=fun x hx=>by
   obtain ⟨b,_,e,_⟩:=hkz x (by simpa [Hp.kz,he,hks] using hx);exact ⟨b,e⟩
  rw [hks] at AT hml hkid hn hr;obtain ⟨v,hv⟩:∃ v,Hp.ow S.words a-1=v:=⟨_,rfl⟩
  have hv0:0<=v:=by omega
  unfold NodePost at AT;rw [hv] at AT ⊢;rw [hb] at AT;obtain ⟨m,hm⟩:∃ m,ks.length=m:=⟨_,rfl⟩
  rw [hm] at AT hml;have H:=hZ h;have k1:=h.k;have k2:=h.h;have z1:=cell_lt k1;have z2:=cell_lt k2;have hlk:=h.map.lookOk (t:=119) Tryz.underlying3 Tryz.underlying119 (Tryz.zeroValue3 w) (k:=a) (by omega);rw [hk] at hlk;simp only [Option.getD_none,Option.isSome_none] at hlk;have HM:=hZ hm;have HKI:=hZ hkid;have HKZ:=hZ hkz';have HN:=hZ hn;have HIH:=hZ IH;have HR:=hZ hr;have HD:=hZ hD;have HW:=hZ hw;have HBE:=hZ hA.below;clear h hA hw hb he hv hk hn hm hks hkid hkz hkz' IH hr hD;unfold Dd.args;have mixed:Tryz.prog.follows .mixedOrders=true:=by kernel_rfl
  have tv:decide (v < 0)=false:=dF;go_enter Tryz.func81,Tryz.ntmps81;go_upto_region 5 with (go_at_call 22;refine (AT.out _ (exx)).mono ?_;rintro e w1 ⟨g,c,rfl,hR,hb1⟩)
  have G1:=hZ (show w.heap.size<=g/\g < w1.heap.size from ⟨hR.far rfl,hR.lt rfl⟩);refine cut_world (F:=fun W=>Hid (Ext w W/\Ext w1 W)/\W.cell? ⟨w1.heap.size,0,none⟩=some (.int .i64 v)/\W.cell? ⟨w1.heap.size,1,none⟩=some (.slice (some ⟨g,0,none⟩) m c)) ⟨hZ ⟨exx,exx⟩, ?a1, ?a2⟩ ?rest
  case a1=>go_simp
  case a2=>go_simp
  case rest=>
  intro w2 ⟨E2,g1,g2⟩;have N:=hZ (H.out.ext' E2.out.1);have BB:=hZ (show w.heap.size<=w1.heap.size/\w1.heap.size ≠ g from ⟨hb1.le,fun e=>by have:=G1.out.2;omega⟩)
  have KS0:Hid (KidSt w w2 i (i.dyn pe pn) K pe pn K w1.heap.size g c m v ([] ++ ks.drop 0)):=hZ
   { but:=But.ofExt E2.out.1
     dyn:=fun b hb=>.inl hb
     kk:=fun b hb=>.inl hb
     b0:=g1
     b1:=g2
     row:=Row.lower (hR.ext E2.out.2) (Nat.zero_le _)
     new:=⟨BB.out.1,G1.out.1,BB.out.2⟩
     far:=fun b hx=>by
      have hb2:w.heap.size<=b:=by
       rcases hx with rfl | rfl
       . exact BB.out.1
       exact G1.out.1
      refine ⟨fun hm=>?_,fun hm=>?_,fun hm=>?_⟩
      . have:=(H.out.lo b (by simp only [List.mem_append];exact .inl (.inl hm))).2;omega
      . have:=(H.out.lo b (by simp only [List.mem_append];exact .inl (.inr hm))).2;omega
      . have:=(H.out.lo b (by simp only [List.mem_append];exact .inr hm)).2;omega }
  have E2w:=hZ E2.out.1;have EW:=hZ H.out.ext;clear hb1 k1 k2 hlk z1 z2 hR E2 G1 BB AT H;generalize w1.heap.size=bb at g1 g2 KS0 ⊢
  go_wp2_with fail
  go_loopg [50] m (fun g' iv wr=>∃ (j:Nat) (Dj:Hp.Dg) (xsj:List Int) (pe' pn':Option Addr) (ce' cn':Nat) (Kj:List (Nat × Nat)),j<=m/\m-j<=g'/\iv = .int .i64 j/\Hid (DgSt wb wr i Dj pe' ce' pn' cn' Kj)/\Hid (KidSt w wr i (i.dyn pe pn) K pe' pn' Kj bb g c m v (xsj ++ ks.drop j))/\Aside (Hp.refs (S.from' n) ((ks.map Int.toNat).take j) D=some (xsj,Dj))/\Aside (Hp.DgOk S Dj))
  case atStart=>exact ⟨0,D,[],pe,pn,ce,cn,K,Nat.zero_le _,by omega,rfl,N,KS0,rfl,HD.out⟩
  case round=>
   obtain ⟨j,Dj,xsj,pe',pn',ce',cn',Kj,hj,hg,rfl,NJ,KJ,RJ,DJ⟩:=hrel;clear g1 g2 N KS0
   by_cases hlt:j < m
   . have tk:decide ((j:Int) < (m:Int))=true:=dT;obtain ⟨y,hy⟩:=get_list (E:=ks) (j:=j) (by rw [HM.out];exact hlt);obtain ⟨k,rfl⟩:=HKZ.out y (List.mem_of_getElem? hy);have hlj:(ks.map Int.toNat)[j]? = some k:=by rw [List.getElem?_map,hy];simp
     have hxl:xsj.length=j:=by
      rw [Hp.refs_len RJ.out,List.length_take,List.length_map,HM.out];omega
     have hkm:=List.mem_of_getElem? hlj;obtain ⟨hkt,hkr⟩:=HKI.out k hkm;obtain ⟨x,D2,ex,FT⟩:=Hp.from_total HW.out n k hkt (HN.out k hkm) Dj DJ.out;have CALL:=hZ (HIH.out k hkt (HN.out k hkm));have hrd:=kid_get hxl hy;have b1:=KJ.out.b1;have gkk:=KJ.out.row.cell_ rfl hrd;have fgk:=KJ.out.row.froz (j:=j) rfl;have f4:=NJ.out.f;have zg:=cell_lt gkk;have zb:=cell_lt b1;have zf:=cell_lt f4;have kcap:=KJ.out.row.at_.cap;have kle:=KJ.out.row.at_.le;have HFT:=hZ FT;have HEX:=hZ ex;have HHY:=hZ hy;have HLJ:=hZ hlj;have HXL:=hZ hxl;have hbk:(k:Int)<=9223372036854775807:=(KJ.out.row.2 k (List.mem_of_getElem? hrd)).2;have hkl:(xsj ++ ks.drop j).length=m:=by
      have:=HM.out;simp only [List.length_append,List.length_drop];omega
     rw [hkl] at kle;have FF:=KJ.out.far;have gfb:g ≠ i.fb:=fun e=>(FF g (.inr rfl)).1 (by rw [e];simp [Dd.fixed])
     have gbb:g ≠ bb:=fun e=>KJ.out.new.2.2 e.symm
     clear hy hlj hxl hkm hkt hkr ex FT hrd FF hkl;unfold Dd.fv at f4
     go_wp2_with fail
     refine wp_region_seq (S:=fun W=>W.cell? ⟨bb,1,none⟩=some (.slice (some ⟨g,0,none⟩) m c)/\W.cell? ⟨i.fb,0,none⟩=some (.func (.func 81) #[] #[.pointer (some ⟨i.kb,0,none⟩),.pointer (some ⟨i.hx,0,none⟩),.pointer (some ⟨i.gd,0,none⟩),.pointer (some ⟨i.fb,0,none⟩)])) (R:=Eq) (by kernel_rfl) (fun _=>rfl) ?_ ?_
     . exact ⟨b1,f4⟩
     refine' wpAnyR_take (i:=0) (v:=?v0_1081) (fun _=>rfl) (fun _ _ _ h k=>h.trans k) rfl (by kernel_rfl) (by kernel_rfl) (by kernel_rfl) (fun _ _ _ h=>h) (Or.inl (Or.inl ⟨by rfl, ?hy0_1081⟩)) ?rest0_1081
     case hy0_1081=>(intro w hSw;(obtain ⟨s1,s2⟩:=hSw);go_simp;try with_reducible rfl)
     refine layy ?_;refine' wpAnyR_take (i:=1) (v:=?v1_1082) (fun _=>rfl) (fun _ _ _ h k=>h.trans k) rfl (by kernel_rfl) (by kernel_rfl) (by kernel_rfl) (fun _ _ _ h=>h) (Or.inl (Or.inl ⟨by rfl, ?hy1_1082⟩)) ?rest1_1082
     case hy1_1082=>(intro w hSw;(obtain ⟨s1,s2⟩:=hSw);go_simp;try with_reducible rfl)
     refine layy ?_;refine' wpAnyR_take (i:=2) (v:=?v2_1083) (fun _=>rfl) (fun _ _ _ h k=>h.trans k) rfl (by kernel_rfl) (by kernel_rfl) (by kernel_rfl) (fun _ _ _ h=>h) (Or.inl (Or.inl ⟨by rfl, ?hy2_1083⟩)) ?rest2_1083
     case hy2_1083=>(intro w hSw;(obtain ⟨s1,s2⟩:=hSw);go_simp;try with_reducible rfl)
     refine layy ?_;refine' wpAnyR_take (i:=3) (v:=?v3_1084) (fun _=>rfl) (fun _ _ _ h k=>h.trans k) rfl (by kernel_rfl) (by kernel_rfl) (by kernel_rfl) (fun _ _ _ h=>h) (Or.inl (Or.inl ⟨by rfl, ?hy3_1084⟩)) ?rest3_1084
     case hy3_1084=>(intro w hSw;(obtain ⟨s1,s2⟩:=hSw);go_simp;try with_reducible rfl)
     refine layy ?_;refine' wpAnyR_take (i:=4) (v:=?v4_1085) (fun _=>rfl) (fun _ _ _ h k=>h.trans k) rfl (by kernel_rfl) (by kernel_rfl) (by kernel_rfl) (fun _ _ _ h=>h) (Or.inl (Or.inl ⟨by rfl, ?hy4_1085⟩)) ?rest4_1085
     case hy4_1085=>(intro w hSw;(obtain ⟨s1,s2⟩:=hSw);go_simp;try with_reducible rfl)
     refine layy ?_;refine wpAnyE_call 5 (f:=81) (args:=i.args k) rfl (by kernel_rfl) (by rfl) ?run5 ?call5
     case run5=>
      have s2:=f4;unfold Dd.args;go_simp
     refine (CALL.out wr.drew Dj D2 pe' pn' ce' cn' Kj x (NJ.out.ext' exx) DJ.out HEX.out).mono ?_;rintro e w4 ⟨rfl,pe4,ce4,pn4,cn4,K4,N4,B4,Y4,Z4⟩;have KJ':KidSt w wr.drew i (i.dyn pe pn) K pe' pn' Kj bb g c m v (xsj ++ ks.drop j):=KJ.out.ext (Ext.drew (Ext.refl wr));have KJ4:=hZ (KJ'.step N4 B4 Y4 Z4);have b4:=KJ4.out.b1;have g4:=N4.f;unfold Dd.fv at g4;have N4:=hZ N4;have hrd:=kid_get HXL.out HHY.out;have gk4:=KJ4.out.row.cell_ rfl hrd;have fgk4:=KJ4.out.row.froz (j:=j) rfl;refine ⟨.int .i64 x,rfl,⟨b4,g4⟩, ?_⟩;clear KJ KJ' B4 Y4 Z4 b1 gkk fgk f4 zg zb zf CALL NJ;refine layy ?_;refine' wpAnyR_take (i:=6) (v:=?v6_1086) (fun _=>rfl) (fun _ _ _ h k=>h.trans k) rfl (by kernel_rfl) (by kernel_rfl) (by kernel_rfl) (fun _ _ _ h=>h) (Or.inl (Or.inl ⟨by rfl, ?hy6_1086⟩)) ?rest6_1086
     case hy6_1086=>(intro w _;go_simp;try with_reducible rfl)
     refine layy ?_;refine wpAnyE_put 7 (w':=w4.setCell ⟨g,j,none⟩ (.int .i64 x)) rfl (by kernel_rfl) (by rfl) ?run7 ?s7 ?next7
     case run7=>go_simp
     case s7=>exact ⟨by go_simp,by go_simp⟩
     refine layy ?_;refine wpAnyR_done (by kernel_rfl) ?_ _;intro w5 e5 _;subst e5
     go_wp2_with fail
     have bx : -9223372036854775808<=x/\x<=9223372036854775807:=by
      have h1:=HFT.out.lo;have h2:=HFT.out.hi;have h3:=HFT.out.ok.many;have h4:=Hp.known_few HFT.out.ok (n:=S.words.length) HBE.out;omega
     have KJ5:=hZ (KJ4.out.set_ (kid_set (x:=x) HXL.out HHY.out) bx.1 bx.2);have N5:=hZ (N4.out.far (l:=[g]) ((But.refl _ _).setCell (p:=⟨g,j,none⟩) (.inl (by simp)) (.int .i64 x)) (fun b hb=>by rw [List.mem_singleton.1 hb];exact Nat.le_trans (EW.out.le) KJ4.out.new.2.1) (fun b hb=>by rw [List.mem_singleton.1 hb];exact KJ4.out.far g (.inr rfl)))
     go_wp2_with fail
     go_roundg (m-(j+1))
     case measure=>omega
     case rel=>exact ⟨j+1,D2,xsj ++ [x],pe4,pn4,ce4,cn4,K4,by omega,Nat.le_refl _,by go_num,N5,KJ5,(show Aside _ from by rw [List.take_add_one,HLJ.out];exact Hp.refs_snoc RJ.out HEX.out),(show Aside _ from HFT.out.ok)⟩
   have:j=m:=by omega
   subst this;have tk:decide ((j:Int) < (j:Int))=false:=dF;have e1:Dj=D1/\xsj=xs:=by
    have h1:=RJ.out;rw [List.take_of_length_le (by rw [List.length_map,HM.out];exact Nat.le_refl _),HR.out] at h1;simp only [Option.some.injEq,Prod.mk.injEq] at h1;exact ⟨h1.2.symm,h1.1.symm⟩
   obtain ⟨rfl,rfl⟩:=e1;rw [List.drop_of_length_le (by rw [HM.out];exact Nat.le_refl _),List.append_nil] at KJ;have hxl:xsj.length=j:=by rw [Hp.refs_len HR.out,List.length_map,HM.out]
   obtain ⟨nn,hnn⟩:∃ nn,Dj.nodes.length=nn:=⟨_,rfl⟩
   have few:=Hp.known_few DJ.out (n:=S.words.length) HBE.out;have many:=DJ.out.many;have NN:=hZ hnn;have HXL:=hZ hxl;have b0:=KJ.out.b0;have b1:=KJ.out.b1;have d3:=NJ.out.d3;have f3:=NJ.out.z3;rw [hnn] at d3 many ⊢;have zd:=cell_lt d3;have zb:=cell_lt b0;clear hnn hxl;go_upto_region 15 with (at_builtin;refine wpList_append_N rfl _ _ 47 41 rfl (z:=.agg #[.int .i64 0,.slice none 0 0]) (n:=2) (bytes:=32) Tryz.underlying47 (by kernel_rfl) rfl (by decide) (by decide) (m:=nn) (by rw [List.length_zipWith,NJ.out.kl,Nat.min_self,NN.out]) rfl rfl (NJ.out.nr.ext (exx)) (y:=[.int .i64 v,.slice (some ⟨g,0,none⟩) j c]) rfl (cells2 (by go_simp) (by go_simp)) (by simp [Value.oneCell']) (by omega) ?_;intro g' cap w3 row hR3 hG hrow hg' hlt';have Na:=NJ.out.ext' (show Ext wr (wr.alloc (.cells #[.int .i64 v,.slice (some ⟨g,0,none⟩) j c] 41)) from exx);obtain ⟨q2,r2⟩:=Na.store3 hG hrow;have NB:=hZ (Na.node_ (g0:=g) (c0:=c) (q:=(v,xsj)) (by rw [show nodeC (v,xsj) (some ⟨g,0,none⟩,c)=[.int .i64 v,.slice (some ⟨g,0,none⟩) j c] by simp [nodeC,HXL.out]];exact hR3) hG hrow hg' hlt' (Row.at_ (Row.ext KJ.out.row exx)) ⟨Nat.le_trans EW.out.le KJ.out.new.2.1,by have h:=Row.lt KJ.out.row rfl;simp;omega⟩ (KJ.out.far g (.inr rfl)).1 (KJ.out.far g (.inr rfl)).2.1);rw [NN.out] at NB;have GI:=hZ (show g' ∈ blk pn' \/ wr.heap.size<=g' from hg'.imp (fun e=>by rw [e];simp [blk]) (fun e=>by rw [e];simp));rw [NN.out] at q2;clear Na hR3 hG hrow hg' hlt')
   obtain ⟨N4,B4⟩:=NB.out;refine cut_world (F:=fun W=>Hid (DgSt wb W i { Dj with nodes:=Dj.nodes ++ [(v,xsj)] } pe' ce' (some ⟨g',0,none⟩) cap (Kj ++ [(g,c)])/\But (i.gd :: blk pn') (wr.alloc (.cells #[.int .i64 v,.slice (some ⟨g,0,none⟩) j c] 41)) W)) (hZ ⟨N4,B4⟩) ?_;intro w4 NW;clear NB N4 B4 q2 r2;have k4:=NW.out.1.k;have d4:=NW.out.1.d3;simp only [List.length_append,List.length_cons,List.length_nil,NN.out,Nat.zero_add] at d4;have s1:wrap64 ((nn:Int)+1-1)=(nn:Int):=IntWalk.wrap64_in _ ⟨by omega,by omega⟩ |>.trans (by omega)
   have s2:IntKind.i64.wrap ((nn:Int)+1-1)=(nn:Int):=(IntWalk.i64_in _ ⟨by omega,by omega⟩).trans (by omega);obtain ⟨w5,hup,hm5,ht5⟩:=NW.out.1.map.put (t:=119) Tryz.underlying3 Tryz.underlying119 (by unfold maxLen;simp only;omega) (a:=a) (x:=(nn:Int)) (by omega) (by omega) (by omega);have B5:But [i.gk] w4 w5:=(But.refl _ _).turned ht5 (.inl (by simp));have N5:=hZ (NW.out.1.known_ B5 hm5);have hlk:=N5.out.map.look (t:=119) Tryz.underlying3 Tryz.underlying119 (Tryz.zeroValue3 w5) (k:=a) (by omega);rw [getI_put (M:=Dj.known) (NJ.out.map.up),if_pos rfl] at hlk;simp only [Option.getD_some] at hlk;have k5:=N5.out.k;have HB5:=hZ B5;clear hm5 ht5 B5
   go_wp2_with fail
   go_returns;rw [NN.out];refine ⟨rfl,_,_,_,_,_,N5.out, ?_,fun b hb=>?_,fun b hb=>?_⟩
   . have b1:But (i.dyn pe' pn') wr (wr.alloc (.cells #[.int .i64 v,.slice (some ⟨g,0,none⟩) j c] 41)):=(But.refl _ _).alloc _;have b2:=b1.trans (NW.out.2.mono (l':=i.dyn pe' pn') (fun x hx=>by
      rcases List.mem_cons.1 hx with rfl | hx
      . exact DgSt.gd_dyn _ _ _
      . exact DgSt.pn_dyn _ hx))
     have b3:=b2.trans (HB5.out.mono (fun x hx=>by rw [List.mem_singleton.1 hx];exact DgSt.gk_dyn _ _ _));exact KJ.out.but.over b3 KJ.out.dyn
   . have hsz:=KJ.out.but.size;simp only [Dd.dyn,blk,List.mem_cons,List.mem_append,List.not_mem_nil,or_false] at hb
     rcases hb with hb | hb | hb | rfl
     . exact KJ.out.dyn b (by rw [hb];exact DgSt.gk_dyn _ _ _)
     . exact KJ.out.dyn b (by rw [hb];exact DgSt.gd_dyn _ _ _)
     . exact KJ.out.dyn b (DgSt.pe_dyn _ hb)
     rcases GI.out with h | h
     . exact KJ.out.dyn b (DgSt.pn_dyn _ h)
     exact .inr (Nat.le_trans hsz h)
   rw [List.map_append] at hb
   rcases List.mem_append.1 hb with hb | hb
   . exact KJ.out.kk b hb
   have:b=g:=by simpa using hb
   rw [this];exact .inr KJ.out.new.2.1
theorem from_any {wb:World} {d:Hd} {S:Hp.Hs} {B:Nat} {L:List Hp.Tl} {ch:Nat->List Nat} {i:Dd} (hA:HAt wb d S) (hw:Hp.Wf S B L ch) (hb:d.hb=i.hb):∀ (n k:Nat),k ∈ S.taken->(S.order.length:Int)-Hp.rk S k < n -> ∀ (w:World) (D D1:Hp.Dg) (pe pn:Option Addr) (ce cn:Nat) (K:List (Nat × Nat)) (x:Int),DgSt wb w i D pe ce pn cn K->Hp.DgOk S D->S.from' n k D=some (x,D1) ->
    Calls Tryz.prog 81 (i.args k) w (FromPost wb w i (i.dyn pe pn) D1 x K)
  | 0,_,_,_,_,_,_,_,_,_,_,_,_,_,_,e=>by simp [Hp.Hs.from'] at e
  | n+1,k,hk,hn,w,D,D1,pe,pn,ce,cn,K,x,h,hD,e=>by
   have hp:=hw.part hk;have hi:=hw.hi;have few:=Hp.known_few hD (n:=S.words.length) hA.below;have many:=hD.many;unfold Hp.Hs.from' at e
   cases hg:getI k D.known with
   | some y=>
    rw [hg] at e;simp only [Option.some.injEq,Prod.mk.injEq] at e;obtain ⟨rfl,rfl⟩:=e;exact from_known h (by omega) hg
   | none=>
    rw [hg] at e;simp only at e
    cases he:Hp.isEnd (Hp.ow S.words k) with
    | true=>
     rw [he] at e;simp only [if_true,Option.some.injEq,Prod.mk.injEq] at e;obtain ⟨rfl,rfl⟩:=e;exact from_end hA hw hb h hk hg he (by omega) (by omega)
    | false=>
     rw [he] at e;simp only [Bool.false_eq_true,if_false,Option.bind_eq_bind,Option.bind_eq_some_iff,Prod.exists,Option.some.injEq,Prod.mk.injEq] at e;obtain ⟨xs,D2,e1,rfl,rfl⟩:=e;exact from_node hA hw hb h hD hk hg he (fun q hq=>by have:=(hw.kid_in hk he q hq).2;omega) (from_any hA hw hb n) e1
theorem sClone_gen (h:SliceAt w p c l) (hl:l.length<=1000000) :
    Calls Tryz.prog 60 #[.slice p l.length c] w fun e w'=>∃ p' c',e = .returned (.slice p' l.length c')/\SliceAt w' p' c' l/\Ext w w' /\ ∀ b ∈ blk p',w.heap.size<=b/\b < w'.heap.size:=by
  by_cases h0:0 < l.length
  . refine (sClone_any h (.inl h0) hl).mono ?_;rintro e w' ⟨p',c',rfl,hR,hE,hg⟩;obtain ⟨g,rfl⟩:=hg h0;exact ⟨_,_,rfl,hR.at_,hE,fun b hb=>by have:=hR.far rfl;have:=hR.lt rfl;simp [blk] at hb;omega⟩
  have hl0:l=[]:=List.eq_nil_of_length_eq_zero (by omega);subst hl0;have q22:∀ (w:World) (a:Option Addr) (n c n' c':Nat),(binOp .eql 22 (.slice a n c) (.slice none n' c')).run Tryz.prog w = .ok (.bool a.isNone) w:=fun w a n c n' c'=>Lib.run_eql_slice_nil w _ _ a n c n' c' Tryz.underlying22
  have hc:=h.cap;clear h h0
  cases p with
  | none=>
   go_enter Tryz.func60,Tryz.ntmps60;go_wp2;go_returns;exact ⟨none,0,rfl,⟨Nat.le_refl _,by omega,by simp,fun h=>by simp at h⟩,exx,by simp [blk]⟩
  | some a=>
   simp only [List.length_nil];go_enter Tryz.func60,Tryz.ntmps60;go_wp2;go_returns;exact ⟨some ⟨w.heap.size,0,none⟩,0,rfl,⟨Nat.le_refl _,by omega,by simp,fun h=>by simp at h⟩,exx,fun b hb=>by simp [blk] at hb ⊢;omega⟩
def DiagPost (w:World) (S:Hp.Hs) (x:Int) (D:Hp.Dg) (e:Ending) (w':World):Prop:=
 ∃ L:DgL,e = .returned (.tuple #[.agg #[.slice L.ps S.sizes.length L.cs,.slice L.po S.order.length L.co,.slice L.pe D.ends.length L.ce,.slice L.pn D.nodes.length L.cn,.int .i64 x],.int .i64 0])/\DgRd w' L S.sizes S.order D.ends D.nodes/\Ext w w' /\ ∀ b ∈ L.blocks,w.heap.size<=b/\b < w'.heap.size
structure Own5 (W:World) (g:Nat) (c0 c1 c2 c3 c4:Value):Prop where
 a0:W.cell? ⟨g,0,none⟩=some c0
 a1:W.cell? ⟨g,1,none⟩=some c1
 a2:W.cell? ⟨g,2,none⟩=some c2
 a3:W.cell? ⟨g,3,none⟩=some c3
 a4:W.cell? ⟨g,4,none⟩=some c4
 z:∀ o,W.frozen? ⟨g,o,none⟩=false
namespace Own5
variable {W W':World} {g:Nat} {c0 c1 c2 c3 c4 d0 d1 d2 d3 d4:Value}
theorem but (h:Own5 W g c0 c1 c2 c3 c4) {l:List Nat} (k:But l W W') (hg:g ∉ l):Own5 W' g c0 c1 c2 c3 c4:=by
 have z:=cell_lt h.a0
 exact ⟨(k.cell z hg 0).trans h.a0,(k.cell z hg 1).trans h.a1,(k.cell z hg 2).trans h.a2,(k.cell z hg 3).trans h.a3,(k.cell z hg 4).trans h.a4,fun o=>(k.frozen z hg o).trans (h.z o)⟩
theorem ext (h:Own5 W g c0 c1 c2 c3 c4) (k:Ext W W'):Own5 W' g c0 c1 c2 c3 c4:=h.but (l:=[]) (But.ofExt k) (by simp)
theorem set (h:Own5 W g c0 c1 c2 c3 c4):Own5 (((((W.setCell ⟨g,0,none⟩ d0).setCell ⟨g,1,none⟩ d1).setCell ⟨g,2,none⟩ d2).setCell ⟨g,3,none⟩ d3).setCell ⟨g,4,none⟩ d4) g d0 d1 d2 d3 d4:=by
 obtain ⟨a0,a1,a2,a3,a4,z⟩:=h
 exact ⟨by simp [go_sem,a0],by simp [go_sem,a1],by simp [go_sem,a2],by simp [go_sem,a3],by simp [go_sem,a4],fun o=>by simp [go_sem,z]⟩
theorem set4 (h:Own5 W g c0 c1 c2 c3 c4):Own5 (W.setCell ⟨g,4,none⟩ d4) g c0 c1 c2 c3 d4:=by
 obtain ⟨a0,a1,a2,a3,a4,z⟩:=h
 exact ⟨by simp [go_sem,a0],by simp [go_sem,a1],by simp [go_sem,a2],by simp [go_sem,a3],by simp [go_sem,a4],fun o=>by simp [go_sem,z]⟩
end Own5
theorem DgSt.start {w6:World} {hb hx gd:Nat} {v0 v1 v4:Value} {t1 t2:TypeId} (E:Ext wb w6) (O:Own5 w6 gd v0 v1 (.slice none 0 0) (.slice none 0 0) v4) (g:w6.cell? ⟨hx,0,none⟩=some (.pointer (some ⟨hb,0,none⟩))) (h1:wb.heap.size<=hx) (h2:wb.heap.size<=gd) (hne:hx ≠ gd) :
    DgSt wb (((w6.alloc (.map #[] 0)).alloc (.cells #[.map (some w6.heap.size)] t1)).alloc (.cells #[.func (.func 81) #[] #[.pointer (some ⟨w6.heap.size+1,0,none⟩),.pointer (some ⟨hx,0,none⟩),.pointer (some ⟨gd,0,none⟩),.pointer (some ⟨w6.heap.size+1+1,0,none⟩)]] t2))
     ⟨hb,w6.heap.size+1,hx,gd,w6.heap.size+1+1,w6.heap.size,v0,v1,v4⟩ ⟨[],[],[]⟩ none 0 none 0 []:=by
  have zh:=cell_lt g;have zg:=cell_lt O.a0;have k:Ext w6 (((w6.alloc (.map #[] 0)).alloc (.cells #[.map (some w6.heap.size)] t1)).alloc (.cells #[.func (.func 81) #[] #[.pointer (some ⟨w6.heap.size+1,0,none⟩),.pointer (some ⟨hx,0,none⟩),.pointer (some ⟨gd,0,none⟩),.pointer (some ⟨w6.heap.size+1+1,0,none⟩)]] t2)):=exx;have O7:=O.ext k;have le:=E.le
  exact
   { ext:=E.trans k
     k:=by go_simp
     h:=(k.cell zh 0).trans g
     f:=by unfold Dd.fv;go_simp
     d2:=O7.a2
     d3:=O7.a3
     d0:=O7.a0
     d1:=O7.a1
     d4:=O7.a4
     z:=O7.z
     z2:=O7.z 2
     z3:=O7.z 3
     map:=((MapIAt.made w6).ext (Ext.alloc (Ext.refl _) _)).ext (Ext.alloc (Ext.refl _) _)
     er:=RowN.nil _ _ _
     nr:=RowN.nil _ _ _
     kl:=rfl
     ks:=fun j q k h=>by simp at h
     lo:=fun b hb=>by
      simp [Dd.fixed,Dd.dyn,blk] at hb;simp;omega
     fx:=fun b hb=>by
      simp [Dd.fixed,Dd.dyn,blk] at hb ⊢;omega
     kx:=fun k hk=>by cases hk
     nd:=by simp [blk];omega }
set_option maxRecDepth 100000 in
set_option maxHeartbeats 16000000 in
theorem Diagram_any {ch:Nat->List Nat} {D:Hp.Dg} (h:HAt w d S) (hw:Hp.Wf S B L ch) (ha:a ∈ S.taken) (hx:S.diagram a=some (x,D)) :
    Calls Tryz.prog 23 #[.pointer (some ⟨d.hb,0,none⟩),.int .i64 a] w (DiagPost w S x D):=by
  have pa:=hw.part ha;have hhi:=hw.hi;have fr:=hw.fr;have H:=hZ h;have HW:=hZ hw;have HX:=hZ hx;have HA:=hZ ha;have HB:=hZ (Hp.has_of ha);obtain ⟨hs5,ho5⟩:S.sizes.length<=1000000/\S.order.length<=1000000:=by
   have:=fr.few;have:=fr.len;omega
  have zh:=h.lt;have c0:=h.c0;have c1:=h.c1;have ss:=h.sizes.le;have oo:=h.order.le;obtain ⟨ns,hns⟩:∃ ns,S.sizes.length=ns:=⟨_,rfl⟩
  obtain ⟨no,hno⟩:∃ no,S.order.length=no:=⟨_,rfl⟩
  have NS:=hZ hns;have NO:=hZ hno;rw [hns] at c0 hs5 ss;rw [hno] at c1 ho5 oo;have CS:=hZ (fun W (hE:Ext w W)=>sClone_gen (H.out.ext hE).sizes (by rw [NS.out];exact hs5));have CO:=hZ (fun W (hE:Ext w W)=>sClone_gen (H.out.ext hE).order (by rw [NO.out];exact ho5));rw [hns] at CS;rw [hno] at CO;clear h hw ha hx fr hns hno;have mixed:Tryz.prog.follows .mixedOrders=true:=by kernel_rfl
  have hmm:=@run_makeMap Tryz.prog;go_enter Tryz.func23,Tryz.ntmps23;go_upto_region 4 with (go_at_call 77;refine (open_yes (H.out.ext (exx)) HB.out (by omega) (by omega)).mono ?_;rintro e w1 ⟨rfl,hb1⟩;obtain ⟨hc1,hf1,hs1⟩:=hb1.cells;have hz1_0:w.heap.size < w1.heap.size:=(by have h:=hb1.le;(try simp at h);omega);have hc1_0:=hb1.cell (b:=w.heap.size) (by first | omega | (simp;done) | (simp;omega));have hf1_0:=hb1.frozen (b:=w.heap.size) (by first | omega | (simp;done) | (simp;omega));have hz1_1:w.heap.size+1 < w1.heap.size:=(by have h:=hb1.le;(try simp at h);omega);have hc1_1:=hb1.cell (b:=w.heap.size+1) (by first | omega | (simp;done) | (simp;omega));have hf1_1:=hb1.frozen (b:=w.heap.size+1) (by first | omega | (simp;done) | (simp;omega)))
  refine cut_world (F:=fun W=>Hid (Ext w W)/\W.cell? ⟨w.heap.size,0,none⟩=some (.pointer (some ⟨d.hb,0,none⟩))/\Hid (Own5 W (w.heap.size+1) (.slice none 0 0) (.slice none 0 0) (.slice none 0 0) (.slice none 0 0) (.int .i64 0))/\w.heap.size+1 < W.heap.size) ⟨hZ (exx),by go_simp,hZ ⟨by go_simp,by go_simp,by go_simp,by go_simp,by go_simp,fun o=>by go_simp⟩,by omega⟩ ?_;intro w2 ⟨E2,g1,O2,z3⟩;have HX0:=hZ (show w.heap.size<=w.heap.size from Nat.le_refl _);have GD0:=hZ (show w.heap.size<=w.heap.size+1/\w.heap.size ≠ w.heap.size+1 from ⟨by omega,by omega⟩);clear hb1 hc1 hf1 hs1 hz1_0 hz1_1 hc1_0 hc1_1 hf1_0 hf1_1;generalize w.heap.size+1=gd at O2 z3 GD0 ⊢;generalize hwz:w.heap.size=hx at g1 HX0 GD0 ⊢;have HWZ:=hZ hwz;clear hwz;refine wp_region_seq (S:=fun W=>Ext w W/\W.cell? ⟨hx,0,none⟩=some (.pointer (some ⟨d.hb,0,none⟩))) (R:=Eq) (by kernel_rfl) (fun _=>rfl) ?_ ?_
  . exact ⟨E2.out.drew,g1⟩
  have O3:Hid (Own5 w2.drew gd (.slice none 0 0) (.slice none 0 0) (.slice none 0 0) (.slice none 0 0) (.int .i64 0)):=hZ (O2.out.ext (Ext.drew (Ext.refl w2)));have E3:Hid (Ext w w2.drew):=hZ E2.out.drew;have g3:w2.drew.cell? ⟨hx,0,none⟩=some (.pointer (some ⟨d.hb,0,none⟩)):=g1;have zz:gd < w2.drew.heap.size:=z3;clear O2 E2 g1 z3;generalize w2.drew=w3 at O3 E3 g3 zz ⊢;refine' wpAnyR_take (i:=0) (v:=?v0_1087) (fun _=>rfl) (fun _ _ _ h k=>h.trans k) rfl (by kernel_rfl) (by kernel_rfl) (by kernel_rfl) (fun _ _ _ h=>h) (Or.inl (Or.inl ⟨by rfl, ?hy0_1087⟩)) ?rest0_1087
  case hy0_1087=>(intro w hSw;(obtain ⟨s1,s2⟩:=hSw;have q0:=(s1.cell zh 0).trans c0;have q1:=(s1.cell zh 1).trans c1);go_simp;try with_reducible rfl)
  refine layy ?_;refine' wpAnyR_take (i:=1) (v:=?v1_1088) (fun _=>rfl) (fun _ _ _ h k=>h.trans k) rfl (by kernel_rfl) (by kernel_rfl) (by kernel_rfl) (fun _ _ _ h=>h) (Or.inl (Or.inl ⟨by rfl, ?hy1_1088⟩)) ?rest1_1088
  case hy1_1088=>(intro w hSw;(obtain ⟨s1,s2⟩:=hSw;have q0:=(s1.cell zh 0).trans c0;have q1:=(s1.cell zh 1).trans c1);go_simp;try with_reducible rfl)
  refine layy ?_;refine' wpAnyR_take (i:=2) (v:=?v2_1089) (fun _=>rfl) (fun _ _ _ h k=>h.trans k) rfl (by kernel_rfl) (by kernel_rfl) (by kernel_rfl) (fun _ _ _ h=>h) (Or.inl (Or.inl ⟨by rfl, ?hy2_1089⟩)) ?rest2_1089
  case hy2_1089=>(intro w hSw;(obtain ⟨s1,s2⟩:=hSw;have q0:=(s1.cell zh 0).trans c0;have q1:=(s1.cell zh 1).trans c1);go_simp;try with_reducible rfl)
  refine layy ?_;refine' wpAnyR_take (i:=3) (v:=?v3_1090) (fun _=>rfl) (fun _ _ _ h k=>h.trans k) rfl (by kernel_rfl) (by kernel_rfl) (by kernel_rfl) (fun _ _ _ h=>h) (Or.inl (Or.inl ⟨by rfl, ?hy3_1090⟩)) ?rest3_1090
  case hy3_1090=>(intro w hSw;(obtain ⟨s1,s2⟩:=hSw;have q0:=(s1.cell zh 0).trans c0;have q1:=(s1.cell zh 1).trans c1);go_simp;try with_reducible rfl)
  refine layy ?_;refine' wpAnyR_take (i:=4) (v:=?v4_1091) (fun _=>rfl) (fun _ _ _ h k=>h.trans k) rfl (by kernel_rfl) (by kernel_rfl) (by kernel_rfl) (fun _ _ _ h=>h) (Or.inl (Or.inl ⟨by rfl, ?hy4_1091⟩)) ?rest4_1091
  case hy4_1091=>(intro w hSw;(obtain ⟨s1,s2⟩:=hSw;have q0:=(s1.cell zh 0).trans c0;have q1:=(s1.cell zh 1).trans c1);go_simp;try with_reducible rfl)
  refine layy ?_;refine' wpAnyR_take (i:=6) (v:=?v6_1092) (fun _=>rfl) (fun _ _ _ h k=>h.trans k) rfl (by kernel_rfl) (by kernel_rfl) (by kernel_rfl) (fun _ _ _ h=>h) (Or.inl (Or.inl ⟨by rfl, ?hy6_1092⟩)) ?rest6_1092
  case hy6_1092=>(intro w hSw;(obtain ⟨s1,s2⟩:=hSw;have q0:=(s1.cell zh 0).trans c0;have q1:=(s1.cell zh 1).trans c1);go_simp;try with_reducible rfl)
  refine layy ?_;refine' wpAnyR_take (i:=7) (v:=?v7_1093) (fun _=>rfl) (fun _ _ _ h k=>h.trans k) rfl (by kernel_rfl) (by kernel_rfl) (by kernel_rfl) (fun _ _ _ h=>h) (Or.inl (Or.inl ⟨by rfl, ?hy7_1093⟩)) ?rest7_1093
  case hy7_1093=>(intro w hSw;(obtain ⟨s1,s2⟩:=hSw;have q0:=(s1.cell zh 0).trans c0;have q1:=(s1.cell zh 1).trans c1);go_simp;try with_reducible rfl)
  refine layy ?_;refine' wpAnyR_take (i:=8) (v:=?v8_1094) (fun _=>rfl) (fun _ _ _ h k=>h.trans k) rfl (by kernel_rfl) (by kernel_rfl) (by kernel_rfl) (fun _ _ _ h=>h) (Or.inl (Or.inl ⟨by rfl, ?hy8_1094⟩)) ?rest8_1094
  case hy8_1094=>(intro w hSw;(obtain ⟨s1,s2⟩:=hSw;have q0:=(s1.cell zh 0).trans c0;have q1:=(s1.cell zh 1).trans c1);go_simp;try with_reducible rfl)
  refine layy ?_;refine' wpAnyR_take (i:=9) (v:=?v9_1095) (fun _=>rfl) (fun _ _ _ h k=>h.trans k) rfl (by kernel_rfl) (by kernel_rfl) (by kernel_rfl) (fun _ _ _ h=>h) (Or.inl (Or.inl ⟨by rfl, ?hy9_1095⟩)) ?rest9_1095
  case hy9_1095=>(intro w hSw;(obtain ⟨s1,s2⟩:=hSw;have q0:=(s1.cell zh 0).trans c0;have q1:=(s1.cell zh 1).trans c1);go_simp;try with_reducible rfl)
  refine layy ?_;refine' wpAnyR_take (i:=10) (v:=?v10_1096) (fun _=>rfl) (fun _ _ _ h k=>h.trans k) rfl (by kernel_rfl) (by kernel_rfl) (by kernel_rfl) (fun _ _ _ h=>h) (Or.inl (Or.inl ⟨by rfl, ?hy10_1096⟩)) ?rest10_1096
  case hy10_1096=>(intro w hSw;(obtain ⟨s1,s2⟩:=hSw;have q0:=(s1.cell zh 0).trans c0;have q1:=(s1.cell zh 1).trans c1);go_simp;try with_reducible rfl)
  refine layy ?_;refine wpAnyE_call 5 (f:=60) (args:=#[.slice d.sp ns d.sc]) rfl (by kernel_rfl) (by rfl) ?run5 ?call5
  case run5=>go_simp
  refine (CS.out w3 E3.out).mono ?_;rintro e w4 ⟨p4,c4,rfl,hS4,hE4,hB4⟩;have E4:=hZ (E3.out.trans hE4);have g4:=(hE4.cell (cell_lt g3) 0).trans g3;have S4:=hZ hS4;have B4:=hZ (show ∀ b ∈ blk p4,w3.heap.size<=b/\b < w4.heap.size from hB4);have O4:=hZ (O3.out.ext hE4);have zz4:w3.heap.size<=w4.heap.size:=hE4.le;refine ⟨.slice p4 ns c4,rfl,⟨E4.out,g4⟩, ?_⟩;clear hS4 hE4 hB4 O3;refine layy ?_;refine wpAnyE_call 11 (f:=60) (args:=#[.slice d.op no d.oc]) rfl (by kernel_rfl) (by rfl) ?run11 ?call11
  case run11=>go_simp
  refine (CO.out w4 E4.out).mono ?_;rintro e w5 ⟨p5,c5,rfl,hS5,hE5,hB5⟩;have E5:=hZ (E4.out.trans hE5);have g5:=(hE5.cell (cell_lt g4) 0).trans g4;have S45:=hZ (S4.out.ext hE5);have S5:=hZ hS5;have B5:=hZ (show ∀ b ∈ blk p5,w4.heap.size<=b/\b < w5.heap.size from hB5);have O5:=hZ (O4.out.ext hE5);have zz5:w4.heap.size<=w5.heap.size:=hE5.le;refine ⟨.slice p5 no c5,rfl,⟨E5.out,g5⟩, ?_⟩;clear hS5 hE5 hB5 O4 S4;refine layy ?_;refine' wpAnyR_take (i:=12) (v:=?v12_1097) (fun _=>rfl) (fun _ _ _ h k=>h.trans k) rfl (by kernel_rfl) (by kernel_rfl) (by kernel_rfl) (fun _ _ _ h=>h) (Or.inl (Or.inl ⟨by rfl, ?hy12_1097⟩)) ?rest12_1097
  case hy12_1097=>(intro w _;go_simp;try with_reducible rfl)
  refine layy ?_;obtain ⟨o0,o1,o2,o3,o4,oz⟩:=O5.out;have K6:But [gd] w5 (((((w5.setCell ⟨gd,0,none⟩ (.slice p4 ns c4)).setCell ⟨gd,1,none⟩ (.slice p5 no c5)).setCell ⟨gd,2,none⟩ (.slice none 0 0)).setCell ⟨gd,3,none⟩ (.slice none 0 0)).setCell ⟨gd,4,none⟩ (.int .i64 0)):=(((((But.refl _ _).setCell (.inl (by simp)) _).setCell (.inl (by simp)) _).setCell (.inl (by simp)) _).setCell (.inl (by simp)) _).setCell (.inl (by simp)) _;have N6':=O5.out.set (d0:=.slice p4 ns c4) (d1:=.slice p5 no c5) (d2:=.slice none 0 0) (d3:=.slice none 0 0) (d4:=.int .i64 0);obtain ⟨w6,hw6⟩:∃ W,(((((w5.setCell ⟨gd,0,none⟩ (.slice p4 ns c4)).setCell ⟨gd,1,none⟩ (.slice p5 no c5)).setCell ⟨gd,2,none⟩ (.slice none 0 0)).setCell ⟨gd,3,none⟩ (.slice none 0 0)).setCell ⟨gd,4,none⟩ (.int .i64 0))=W:=⟨_,rfl⟩
  rw [hw6] at K6 N6';have N6:=hZ N6';have E6:=hZ (K6.toExt E5.out (fun b hb=>by rw [List.mem_singleton.1 hb,HWZ.out];exact GD0.out.1));have g6:=(K6.cell (cell_lt g5) (by simpa using GD0.out.2) 0).trans g5;have S46:=hZ (S45.out.but K6 (fun b o e hm=>by have:=(B4.out b (mem_blk e)).1;rw [List.mem_singleton.1 hm] at this;omega));have S56:=hZ (S5.out.but K6 (fun b o e hm=>by have:=(B5.out b (mem_blk e)).1;rw [List.mem_singleton.1 hm] at this;omega));have zz6:=K6.size;have HBL:=hZ (show ∀ b,b ∈ blk p4 \/ b ∈ blk p5->gd < b/\b < w6.heap.size from fun b hb=>by
   rcases hb with hb | hb
   . have:=B4.out b hb;omega
   . have:=B5.out b hb;omega)
  refine wpAnyE_put 13 (w':=w6) rfl (by kernel_rfl) (by rfl) ?run13 ⟨E6.out,g6⟩ ?next13
  case run13=>rw [<- hw6];go_simp
  clear hw6 o0 o1 o2 o3 o4 oz N6' K6 S45 S5 O5 E5 E4 E3 g3 g4 g5 B4 B5;refine layy ?_;refine wpAnyR_done (by kernel_rfl) ?_ _;intro w6' e6 _;subst e6;go_upto_region 8 with fail
  refine cut_world (F:=fun W=>Hid (DgSt w W ⟨d.hb,w6.heap.size+1,hx,gd,w6.heap.size+1+1,w6.heap.size,.slice p4 ns c4,.slice p5 no c5,.int .i64 0⟩ ⟨[],[],[]⟩ none 0 none 0 [])/\Hid (Ext w6 W)) ?start ?_
  case start=>exact ⟨hZ (DgSt.start E6.out N6.out g6 (by rw [HWZ.out];exact Nat.le_refl _) (by rw [HWZ.out];exact GD0.out.1) GD0.out.2),hZ (exx)⟩
  intro w7 ⟨N7,E7⟩;have CALL:=hZ (from_any H.out HW.out rfl _ a HA.out (by have:=Hp.rank_lo S.order (Hp.ow S.words a);unfold Hp.rk;rw [NO.out];show (no:Int)-_ < ((no+2:Nat):Int);omega) w7 ⟨[],[],[]⟩ D none none 0 0 [] x N7.out ⟨List.Pairwise.nil,by simp,rfl,by simp,by simp⟩ (by have:=HX.out;unfold Hp.Hs.diagram at this;rw [NO.out] at this;exact this));unfold Dd.args at CALL;simp only at CALL;have f7:=N7.out.f;unfold Dd.fv at f7;simp only at f7;have e7:=N7.out.ext.le;clear g6 N6 CS CO c0 c1;have GK:=hZ (show ∀ b,b < w6.heap.size->b ≠ w6.heap.size from fun b hb=>by omega);generalize w6.heap.size+1+1=fb at N7 CALL f7 ⊢;generalize w6.heap.size+1=kb at N7 CALL f7 ⊢;generalize hgk:w6.heap.size=gk at N7 CALL f7 HBL zz6 GK ⊢;have HGK:=hZ hgk;clear hgk
  go_wp2_with fail
  refine Calls.mono CALL.out ?_;rintro e w8 ⟨rfl,pe,ce,pn,cn,K,N8,B8,Y8,Z8⟩;have O8:Own5 w8 gd (.slice p4 ns c4) (.slice p5 no c5) (.slice pe D.ends.length ce) (.slice pn D.nodes.length cn) (.int .i64 0):=⟨N8.d0,N8.d1,N8.d2,N8.d3,N8.d4,N8.z⟩
  obtain ⟨o0,o1,o2,o3,o4,oz⟩:=O8;have O9:=hZ (Own5.set (d0:=.slice p4 ns c4) (d1:=.slice p5 no c5) (d2:=.slice pe D.ends.length ce) (d3:=.slice pn D.nodes.length cn) (d4:=.int .i64 x) (Own5.set4 (d4:=.int .i64 x) ⟨o0,o1,o2,o3,o4,oz⟩));have K9:But [gd] w8 (((((((w8.setCell ⟨gd,4,none⟩ (.int .i64 x)).setCell ⟨gd,0,none⟩ (.slice p4 ns c4)).setCell ⟨gd,1,none⟩ (.slice p5 no c5)).setCell ⟨gd,2,none⟩ (.slice pe D.ends.length ce)).setCell ⟨gd,3,none⟩ (.slice pn D.nodes.length cn)).setCell ⟨gd,4,none⟩ (.int .i64 x))):=((((((But.refl _ _).setCell (.inl (by simp)) _).setCell (.inl (by simp)) _).setCell (.inl (by simp)) _).setCell (.inl (by simp)) _).setCell (.inl (by simp)) _).setCell (.inl (by simp)) _;have HK9:=hZ K9;have N8h:=hZ N8;have B8h:=hZ B8;clear K9 N8 B8 Y8 Z8 CALL f7
  go_wp2_with fail
  obtain ⟨a0,a1,a2,a3,a4,-⟩:=O9.out;refine bodyPost_ret (v:=.tuple #[.agg #[.slice p4 ns c4,.slice p5 no c5,.slice pe D.ends.length ce,.slice pn D.nodes.length cn,.int .i64 x],.int .i64 0]) (by simp [results,Tryz.results23,go_sem, *]) rfl ?_;have gdyn:gd ∈ (⟨d.hb,kb,hx,gd,fb,gk,.slice p4 ns c4,.slice p5 no c5,.int .i64 0⟩:Dd).dyn pe pn:=DgSt.gd_dyn _ _ _;have far:∀ b,b ∈ blk p4 \/ b ∈ blk p5->b ∉ (⟨d.hb,kb,hx,gd,fb,gk,.slice p4 ns c4,.slice p5 no c5,.int .i64 0⟩:Dd).dyn none none:=fun b hb hm=>by
   have h1:=HBL.out b hb;have h2:=GK.out b h1.2;simp only [Dd.dyn,blk,List.mem_cons,List.mem_append,List.not_mem_nil,or_false] at hm;omega
  have ngd:∀ b,b ∈ blk p4 \/ b ∈ blk p5->b ∉ [gd]:=fun b hb hm=>by
   have h1:=HBL.out b hb;rw [List.mem_singleton.1 hm] at h1;omega
  have ewl:=E6.out.le;have sz:=HK9.out.size;have sz8:=B8h.out.size;have sz7:=E7.out.le;refine ⟨⟨p4,c4,p5,c5,pe,ce,pn,cn,K.map fun k=>(some ⟨k.1,0,none⟩,k.2)⟩,by rw [NS.out,NO.out], ?_, ?_, ?_⟩
  . refine ⟨((S46.out.ext E7.out).but B8h.out fun b o e=>far b (.inl (mem_blk e))).but HK9.out fun b o e=>ngd b (.inl (mem_blk e)),((S56.out.ext E7.out).but B8h.out fun b o e=>far b (.inr (mem_blk e))).but HK9.out fun b o e=>ngd b (.inr (mem_blk e)),N8h.out.er.rd.but HK9.out fun b o e hm=>?_, ?_,by simp [N8h.out.kl],fun j q k hq hk=>?_⟩
    . have:=N8h.out.nd.2.2.2.1;rw [List.mem_singleton.1 hm] at e;exact this (mem_blk e)
    . rw [List.zipWith_map_right];refine N8h.out.nr.rd.but HK9.out fun b o e hm=>?_
      have:=N8h.out.nd.2.2.2.2.1;rw [List.mem_singleton.1 hm] at e;exact this (mem_blk e)
    simp only at hk;rw [List.getElem?_map,Option.map_eq_some_iff] at hk;obtain ⟨k',hk',rfl⟩:=hk;refine (N8h.out.ks j q k' hq hk').but HK9.out fun b o e hm=>?_
    have:=N8h.out.kx k' (List.mem_of_getElem? hk')
    cases e
    rw [List.mem_singleton.1 hm] at this;exact this gdyn
  . exact HK9.out.toExt N8h.out.ext (fun b hb=>by rw [List.mem_singleton.1 hb,HWZ.out];exact GD0.out.1)
  intro b hb;have key:∀ b,b ∈ blk p4 \/ b ∈ blk p5->w.heap.size<=b/\b < w8.heap.size:=fun b hb=>by
   have h1:=HBL.out b hb;have h2:=GD0.out.1;have h3:=HWZ.out;have h4:=HGK.out;omega
  have key2:∀ b,b ∈ (⟨d.hb,kb,hx,gd,fb,gk,.slice p4 ns c4,.slice p5 no c5,.int .i64 0⟩:Dd).dyn pe pn ++ K.map Prod.fst->w.heap.size<=b/\b < w8.heap.size:=fun b hb=>N8h.out.lo b (by
   simp only [List.mem_append] at hb ⊢
   rcases hb with hb | hb
   . exact .inl (.inr hb)
   . exact .inr hb)
  have main:w.heap.size<=b/\b < w8.heap.size:=by
   simp only [DgL.blocks,List.mem_append] at hb
   rcases hb with (((hb | hb) | hb) | hb) | hb
   . exact key b (.inl hb)
   . exact key b (.inr hb)
   . exact key2 b (by simp only [List.mem_append];exact .inl (DgSt.pe_dyn _ hb))
   . exact key2 b (by simp only [List.mem_append];exact .inl (DgSt.pn_dyn _ hb))
   rw [List.mem_flatMap] at hb;obtain ⟨k,hk,hb⟩:=hb;obtain ⟨k',hk',rfl⟩:=List.mem_map.1 hk;have:b=k'.1:=by simpa [blk] using hb
   rw [this];exact key2 _ (by simp only [List.mem_append,List.mem_map];exact .inr ⟨k',hk',rfl⟩)
  omega
open Go.RowKit Go.Maps
set_option maxRecDepth 100000 in
set_option maxHeartbeats 4000000 in
theorem Load_err {pw:Option Addr} {d wc nw:Nat} {sizes order:List Int} (hs:SliceAt w p c sizes) (ho:SliceAt w q d order) (hq:0 < order.length \/ q=none) (hol:order.length<=1000000) (he:Hp.newErr sizes order nw ≠ 0) :
    Calls Tryz.prog 16 #[.slice p sizes.length c,.slice q order.length d,.slice pw nw wc] w fun e w'=>e = .returned (.tuple #[.pointer none,.int .i64 (Hp.newErr sizes order nw)])/\Ext w w':=by
  have HC:=hZ (hcheck_any (words:=(nw:Int)) hs ho hq hol);clear hs ho;generalize Hp.newErr sizes order nw=fe at *;have t0:(fe != 0)=true:=by simpa using he
  clear he;go_enter Tryz.func16,Tryz.ntmps16
  go_wp2_with (go_at_call 59;refine (HC.out).mono ?_;rintro e w1 ⟨rfl,hb1⟩;obtain ⟨hc1,hf1,hs1⟩:=hb1.cells)
  go_ret2
  exact ⟨rfl,exx⟩
set_option maxRecDepth 100000 in
set_option maxHeartbeats 4000000 in
theorem Diagram_no (h:HAt w d S) (hb:S.has x=false) (h1 : -9223372036854775808<=x) (h2:x<=9223372036854775807) :
    Calls Tryz.prog 23 #[.pointer (some ⟨d.hb,0,none⟩),.int .i64 x] w fun e w'=>e = .returned (.tuple #[.agg #[.slice none 0 0,.slice none 0 0,.slice none 0 0,.slice none 0 0,.int .i64 0],.int .i64 7])/\Ext w w':=by
  have H:=hZ h;have HB:=hZ hb;clear h hb;have mixed:Tryz.prog.follows .mixedOrders=true:=by kernel_rfl
  go_enter Tryz.func23,Tryz.ntmps23;go_upto_region 3 with (go_at_call 77;refine (open_no (H.out.ext (exx)) HB.out h1 h2).mono ?_;rintro e w1 ⟨rfl,hb1⟩;obtain ⟨hc1,hf1,hs1⟩:=hb1.cells;have hz1_0:w.heap.size < w1.heap.size:=(by have h:=hb1.le;(try simp at h);omega);have hc1_0:=hb1.cell (b:=w.heap.size) (by first | omega | (simp;done) | (simp;omega));have hf1_0:=hb1.frozen (b:=w.heap.size) (by first | omega | (simp;done) | (simp;omega));have hz1_1:w.heap.size+1 < w1.heap.size:=(by have h:=hb1.le;(try simp at h);omega);have hc1_1:=hb1.cell (b:=w.heap.size+1) (by first | omega | (simp;done) | (simp;omega));have hf1_1:=hb1.frozen (b:=w.heap.size+1) (by first | omega | (simp;done) | (simp;omega)))
  have zl:w.heap.size+1 < ((w.alloc (.cells #[.pointer (some ⟨d.hb,0,none⟩)] 28)).alloc (.cells #[.slice none 0 0,.slice none 0 0,.slice none 0 0,.slice none 0 0,.int .i64 0] 49)).heap.size:=by simp
  have O0:Own5 ((w.alloc (.cells #[.pointer (some ⟨d.hb,0,none⟩)] 28)).alloc (.cells #[.slice none 0 0,.slice none 0 0,.slice none 0 0,.slice none 0 0,.int .i64 0] 49)) (w.heap.size+1) (.slice none 0 0) (.slice none 0 0) (.slice none 0 0) (.slice none 0 0) (.int .i64 0):=⟨by go_simp,by go_simp,by go_simp,by go_simp,by go_simp,fun o=>by go_simp⟩
  have O1:=O0.ext hb1;have E1:Ext w w1:=exx;have O2:=hZ (Own5.set (d0:=.slice none 0 0) (d1:=.slice none 0 0) (d2:=.slice none 0 0) (d3:=.slice none 0 0) (d4:=.int .i64 0) O1);obtain ⟨a0,a1,a2,a3,a4,az⟩:=O1;clear O0 zl hc1_0 hc1_1 hf1_0 hf1_1 hz1_0 hz1_1
  go_wp2_with fail
  clear a0 a1 a2 a3 a4 az;obtain ⟨u0,u1,u2,u3,u4,-⟩:=O2.out;refine bodyPost_ret (v:=.tuple #[.agg #[.slice none 0 0,.slice none 0 0,.slice none 0 0,.slice none 0 0,.int .i64 0],.int .i64 7]) (by simp [results,Tryz.results23,go_sem, *]) rfl ?_;refine ⟨rfl, ?_⟩;exact Ext.setCell (Ext.setCell (Ext.setCell (Ext.setCell (Ext.setCell E1 (Nat.le_succ _) _) (Nat.le_succ _) _) (Nat.le_succ _) _) (Nat.le_succ _) _) (Nat.le_succ _) _
end Go.Proofs.YtdokmmhjmclmnaaGreat
