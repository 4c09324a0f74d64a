/-
  Part 28 of a proof: LD6 LD4.
-/
import Derived.Test.YtdokmmhjmclmnaaGreatMK01
import Derived.Test.YtdokmmhjmclmnaaGreatMK12
import Derived.Test.YtdokmmhjmclmnaaGreatMK27
set_option linter.unusedSimpArgs false
set_option linter.unusedVariables false
set_option linter.unusedSectionVars false
set_option linter.unnecessarySimpa false
namespace Go.Proofs.YtdokmmhjmclmnaaGreat
variable {W' w w' w0:World} {B a b base c ca cap f g i j k k1 k2 m n oc sb sc:Nat} {choice e t x:Int} {W fs l o z:List Int} {A T:List Nat} {op p p1 p2 pa pe pn q sp:Option Addr} {d:Hd} {S S':Hp.Hs} {r:Rd} {L:List Hp.Tl} {M:List (Nat × Int)} {s s':Hp.Sc} {acts:List Hp.Act'}
open Go.RowKit Go.Maps
theorem MapIAt.lookOk {P:Program} {t:TypeId} (h:MapIAt P w g M) (hk:P.underlying 3=some (.int .i64)) (ht:P.underlying t=some (.map 3 3)) (hz:(zeroValue 3).run P w = .ok (.int .i64 0) w) (hk2:(k:Int)<=9223372036854775807) :
    (Instr.lookup t (.map (some g)) (.int .i64 k) true).run P w = .ok (.tuple #[.int .i64 ((getI k M).getD 0),.bool (getI k M).isSome]) w:=by
  have wf:(Lit.int .i64 k).wf=true:=WalkArith.wf_i64 (by omega);obtain ⟨v,ps,hrun,hv⟩:=h.owns.look_ok (int_keyed hk) ht hz (plainElem_int hk (by decide)) (keyOf_int_mk hk wf);obtain ⟨c,rfl,hc,hwc⟩:=plainElem_int_inv hk hv;rw [hrun];have e1:Maps.has (mapOfI M) (.int .i64 k)=(getI k M).isSome:=by
   cases hh:(getI k M).isSome with
   | true=>exact (has_mapOfI M _).2 ⟨k,rfl,hh⟩
   | false=>
    cases hq:Maps.has (mapOfI M) (.int .i64 k) with
    | false=>rfl
    | true=>
     obtain ⟨n,e,hn⟩:=(has_mapOfI M _).1 hq;injection e with _ e
     have:n=k:=by omega
     subst this;rw [hh] at hn
     cases hn
  have e2:c=(getI k M).getD 0:=by
   simp only [Prod.mk.injEq] at hc;have hat:=hc.1;rw [at_mapOfI] at hat
   cases hg:getI k M with
   | none=>
    rw [hg] at hat;simp only at hat;injection hat with hat
    injection hat with _ hat
    exact hat.symm
   | some v=>
    rw [hg] at hat;simp only at hat;injection hat with hat
    injection hat with _ hat
    exact hat.symm
  rw [e1,e2]
theorem cells2 {x y:Value} (h0:w.cell? ⟨b,0,none⟩=some x) (h1:w.cell? ⟨b,1,none⟩=some y):∀ (i:Nat) (v:Value),[x,y][i]? = some v->w.cell? ⟨b,i,none⟩=some v
 | 0,v,h=>by simp at h;rw [<- h];exact h0
 | 1,v,h=>by simp at h;rw [<- h];exact h1
 | i+2,v,h=>by simp at h
def FromPost (wb w:World) (i:Dd) (l0:List Nat) (D1:Hp.Dg) (x:Int) (K0:List (Nat × Nat)) (e:Ending) (w':World):Prop:=
 e = .returned (.int .i64 x) /\ ∃ pe ce pn cn K,DgSt wb w' i D1 pe ce pn cn K/\But l0 w w'/\(∀ b ∈ i.dyn pe pn,b ∈ l0 \/ w.heap.size<=b) /\ ∀ b ∈ K.map Prod.fst,b ∈ K0.map Prod.fst \/ w.heap.size<=b
def Dd.args (i:Dd) (a:Nat):Array Value:=#[.int .i64 a,.pointer (some ⟨i.kb,0,none⟩),.pointer (some ⟨i.hx,0,none⟩),.pointer (some ⟨i.gd,0,none⟩),.pointer (some ⟨i.fb,0,none⟩)]
set_option maxRecDepth 100000 in
theorem from_known {wb:World} {i:Dd} {D:Hp.Dg} {ce cn:Nat} {K:List (Nat × Nat)} (h:DgSt wb w i D pe ce pn cn K) (ha:a<=1000000) (hk:getI a D.known=some x) :
    Calls Tryz.prog 81 (i.args a) w (FromPost wb w i (i.dyn pe pn) D x K):=by
  have H:=hZ h;have k1:=h.k;have hlk:=h.map.lookOk (t:=119) Tryz.underlying3 Tryz.underlying119 (Tryz.zeroValue3 w) (k:=a) (by omega);rw [hk] at hlk;simp only [Option.getD_some,Option.isSome_some] at hlk;clear h hk;unfold Dd.args;go_enter Tryz.func81,Tryz.ntmps81
  go_wp2_with fail
  go_returns;exact ⟨rfl,pe,ce,pn,cn,K,H.out,But.refl _ _,fun b hb=>.inl hb,fun b hb=>.inl hb⟩
set_option maxRecDepth 100000 in
set_option maxHeartbeats 8000000 in
theorem from_end {wb:World} {ch:Nat->List Nat} {i:Dd} {D:Hp.Dg} {ce cn:Nat} {K:List (Nat × Nat)} (hA:HAt wb d S) (hw:Hp.Wf S B L ch) (hb:d.hb=i.hb) (h:DgSt wb w i D pe ce pn cn K) (ha:a ∈ S.taken) (hk:getI a D.known=none) (he:Hp.isEnd (Hp.ow S.words a)=true) (hn:D.known.length<=100000) (hne:D.ends.length<=100000) :
    Calls Tryz.prog 81 (i.args a) w (FromPost wb w i (i.dyn pe pn) ⟨putI a (-((D.ends.length:Int)+1)) D.known,D.ends ++ [(Hp.ow S.words a-20,Hp.ow S.words (a+4))],D.nodes⟩ (-((D.ends.length:Int)+1)) K):=by
  have pa:=hw.part ha;have hhi:=hw.hi;obtain ⟨f,hf⟩:∃ f:Nat,Hp.ow S.words a=20+f:=by
   simp only [Hp.isEnd,Hp.within,Bool.and_eq_true,decide_eq_true_eq] at he;exact ⟨(Hp.ow S.words a-20).toNat,by omega⟩
  have AT:=hZ (fun W (hE:Ext w W)=>At_end_f ((hA.ext h.ext).ext hE) hw ha hf he);rw [show Hp.ow S.words a-20=(f:Int) by omega];obtain ⟨v,hv⟩:∃ v,Hp.ow S.words (a+4)=v:=⟨_,rfl⟩
  rw [hv] at AT ⊢;rw [hb] at AT;obtain ⟨ne,hne'⟩:∃ ne,D.ends.length=ne:=⟨_,rfl⟩
  have H:=hZ h;have k1:=h.k;have k2:=h.h;have z1:=cell_lt k1;have z2:=cell_lt k2;have hlk:=h.map.lookOk (t:=119) Tryz.underlying3 Tryz.underlying119 (Tryz.zeroValue3 w) (k:=a) (by omega);rw [hk] at hlk;simp only [Option.getD_none,Option.isSome_none] at hlk;have HN:=hZ hn;have NE:=hZ hne';rw [hne'] at hne ⊢;clear h hA hw hb hf he hv hk hn hne';unfold Dd.args;go_enter Tryz.func81,Tryz.ntmps81;go_upto_region 5 with (go_at_call 22;refine (AT.out _ (exx)).mono ?_;rintro e w1 ⟨rfl,hb1⟩)
  refine cut_world (F:=fun W=>Hid (Ext w W)/\W.cell? ⟨w1.heap.size,0,none⟩=some (.int .i64 (-1))/\W.cell? ⟨w1.heap.size+1,0,none⟩=some (.int .u8 f)/\W.cell? ⟨w1.heap.size+1,1,none⟩=some (.int .i64 v)) ⟨hZ (exx), ?a1, ?a2, ?a3⟩ ?rest
  case a1=>go_simp
  case a2=>go_simp
  case a3=>go_simp
  case rest=>
  intro w2 ⟨E2,g1,g2,g3⟩;have N:=hZ (H.out.ext' E2.out);clear hb1 k1 k2 hlk z1 z2;generalize w1.heap.size+1=bv at g2 g3 ⊢;generalize w1.heap.size=bb at g1 ⊢;have d2:=N.out.d2;have f2:=N.out.z2;rw [NE.out] at d2;have zd:=cell_lt d2;have zv:=cell_lt g2;go_upto_region 7 with (at_builtin;refine wpList_append_N rfl _ _ 46 43 rfl (z:=.agg #[.int .u8 0,.int .i64 0]) (n:=2) (bytes:=16) Tryz.underlying46 (by kernel_rfl) rfl (by decide) (by decide) (m:=ne) (by rw [List.length_map,NE.out]) rfl rfl (N.out.er.ext (exx)) (y:=endC ((f:Int),v)) rfl (cells2 (by go_simp) (by go_simp)) (by simp [endC,Value.oneCell']) (by omega) ?_;intro g cap w3 row hR hG hrow hg hlt;have Na:=N.out.ext' (show Ext w2 (w2.alloc (.cells #[.int .u8 f,.int .i64 v] 43)) from exx);obtain ⟨q2,r2⟩:=Na.store2 hG hrow;have NB:=hZ (Na.end_ (v:=((f:Int),v)) hR hG hrow hg hlt);rw [NE.out] at NB;have GI:=hZ (show g ∈ blk pe \/ w2.heap.size<=g from hg.imp (fun e=>by rw [e];simp [blk]) (fun e=>by rw [e];simp));clear Na hR hG hrow hg hlt)
  obtain ⟨N4,B4⟩:=NB.out;refine cut_world (F:=fun W=>Hid (DgSt wb W i { D with ends:=D.ends ++ [((f:Int),v)] } (some ⟨g,0,none⟩) cap pn cn K/\But (i.gd :: blk pe) (w2.alloc (.cells #[.int .u8 f,.int .i64 v] 43)) W)) (hZ ⟨N4,B4⟩) ?_;intro w4 NN;clear NB N4 B4 q2 r2;have k4:=NN.out.1.k;have d4:=NN.out.1.d2;simp only [List.length_append,List.length_cons,List.length_nil,NE.out,Nat.zero_add] at d4;have w1':wrap64 (-((ne:Int)+1)) = -((ne:Int)+1):=IntWalk.wrap64_in _ ⟨by omega,by omega⟩;have w2':IntKind.i64.wrap (-((ne:Int)+1)) = -((ne:Int)+1):=IntWalk.i64_in _ ⟨by omega,by omega⟩;obtain ⟨w5,hup,hm5,ht5⟩:=NN.out.1.map.put (t:=119) Tryz.underlying3 Tryz.underlying119 (by have:=HN.out;unfold maxLen;simp only;omega) (a:=a) (x:=-((ne:Int)+1)) (by omega) (by omega) (by omega);have B5:But [i.gk] w4 w5:=(But.refl _ _).turned ht5 (.inl (by simp));have N5:=hZ (NN.out.1.known_ B5 hm5);have hlk:=N5.out.map.look (t:=119) Tryz.underlying3 Tryz.underlying119 (Tryz.zeroValue3 w5) (k:=a) (by omega);rw [getI_put (M:=D.known) (H.out.map.up),if_pos rfl] at hlk;simp only [Option.getD_some] at hlk;have k5:=N5.out.k;have HB5:=hZ B5;clear hm5 ht5 B5
  go_wp2_with fail
  go_returns;refine ⟨rfl,_,_,_,_,_,N5.out, ?_, ?_,fun b hb=>.inl hb⟩
  . have b1:But (i.dyn pe pn) w w2:=But.ofExt E2.out;have b2:But (i.dyn pe pn) w (w2.alloc (.cells #[.int .u8 f,.int .i64 v] 43)):=b1.alloc _;have b3:=b2.trans (NN.out.2.mono (l':=i.dyn pe pn) (fun x hx=>by
     rcases List.mem_cons.1 hx with rfl | hx
     . exact DgSt.gd_dyn _ _ _
     . exact DgSt.pe_dyn _ hx))
    exact b3.trans (HB5.out.mono (fun x hx=>by rw [List.mem_singleton.1 hx];exact DgSt.gk_dyn _ _ _))
  intro b hb;simp only [Dd.dyn,blk,List.mem_cons,List.mem_append,List.not_mem_nil,or_false] at hb ⊢
  rcases hb with hb | hb | rfl | hb
  . exact .inl (.inl hb)
  . exact .inl (.inr (.inl hb))
  . rcases GI.out with h | h
    . exact .inl (.inr (.inr (.inl h)))
    exact .inr (Nat.le_trans E2.out.le h)
  exact .inl (.inr (.inr (.inr hb)))
theorem zip_nodeC_get {N:List (Int × List Int)} {K:List (Option Addr × Nat)} {q:Int × List Int} {k:Option Addr × Nat} (h:N[j]? = some q) (hk:K[j]? = some k):(List.zipWith nodeC N K)[j]? = some [.int .i64 q.1,.slice k.1 q.2.length k.2]:=by
 rw [List.getElem?_zipWith,h,hk]
 rfl
theorem zip_nodeC_len {N:List (Int × List Int)} {K:List (Option Addr × Nat)} (h:K.length=N.length):(List.zipWith nodeC N K).length=N.length:=by
 rw [List.length_zipWith,h,Nat.min_self]
theorem DgRd.node_cells {L:DgL} {E:List (Int × Int)} {N:List (Int × List Int)} (h:DgRd w L z o E N) (h0:0 < N.length):∃ b o,L.pn=some ⟨b,o,none⟩/\b < w.heap.size /\
    ∀ (j:Nat) (q:Int × List Int) (k:Option Addr × Nat),N[j]? = some q->L.K[j]? = some k->w.cell? ⟨b,o+j * 2,none⟩=some (.int .i64 q.1)/\w.cell? ⟨b,o+j * 2+1,none⟩=some (.slice k.1 q.2.length k.2):=by
  obtain ⟨b,o',e,hb,hc⟩:=h.n.cells (by rw [zip_nodeC_len h.kl];exact h0);refine ⟨b,o',e,hb,fun j q k hq hk=>⟨?_, ?_⟩⟩
  . exact hc j _ 0 _ (zip_nodeC_get hq hk) rfl
  exact hc j _ 1 _ (zip_nodeC_get hq hk) rfl
set_option maxRecDepth 100000 in
set_option maxHeartbeats 8000000 in
theorem dEqual_loop {L M:DgL} {E:List (Int × Int)} {N N':List (Int × List Int)} (h:DgRd w L z o E N) (k:DgRd w M z o E N') (hne:N.length=N'.length) :
    Calls Tryz.prog 27 #[.agg #[.slice L.ps z.length L.cs,.slice L.po o.length L.co,.slice L.pe E.length L.ce,.slice L.pn N.length L.cn,.int .i64 x],.agg #[.slice M.ps z.length M.cs,.slice M.po o.length M.co,.slice M.pe E.length M.ce,.slice M.pn N.length M.cn,.int .i64 x]] w fun e w'=>e = .returned (.bool (decide (N=N')))/\Ext w w':=by
  have H:=hZ h;have K:=hZ k;have H1:=hZ (fun W (hE:Ext w W)=>dSame_is (b:=true) (by simp) (H.out.s.ext hE) (K.out.s.ext hE));have H2:=hZ (fun W (hE:Ext w W)=>dSame_is (b:=true) (by simp) (H.out.o.ext hE) (K.out.o.ext hE));have H3:=hZ (fun W (hE:Ext w W)=>by have:=dAlike_any (H.out.e.ext hE) (K.out.e.ext hE);rw [decide_eq_true (rfl:E=E)] at this;exact this);have l1:=h.s.le;have l2:=h.o.le;have l3:=h.e.le;have l4:=h.n.le;have l4':=k.n.le;have c4:=h.n.cap;have c4':=k.n.cap;rw [List.length_map] at l3;rw [zip_nodeC_len h.kl] at l4;rw [zip_nodeC_len k.kl,<- hne] at l4';have HK:=hZ h.kl;have HK':=hZ k.kl;have HM:=hZ hne;clear h k hne;generalize hL:N.length=n at l4 l4' ⊢;have HL:=hZ hL;generalize z.length=nz at *;generalize o.length=no at *;generalize E.length=ne at *;clear hL;have mixed:Tryz.prog.follows .mixedOrders=true:=by kernel_rfl
  go_enter Tryz.func27,Tryz.ntmps27;go_upto_region 3 with (first | (have _t:=hb1;go_at_call 24;refine (H2.out _ (exx)).mono ?_;rintro e w2 ⟨rfl,hb2⟩;obtain ⟨hc2,hf2,hs2⟩:=hb2.cells;have hz2_0:w.heap.size < w2.heap.size:=(by have h:=hb2.le;(try simp at h);omega);have hc2_0:=hb2.cell (b:=w.heap.size) (by first | omega | (simp;done) | (simp;omega));have hf2_0:=hb2.frozen (b:=w.heap.size) (by first | omega | (simp;done) | (simp;omega));have hz2_1:w.heap.size+1 < w2.heap.size:=(by have h:=hb2.le;(try simp at h);omega);have hc2_1:=hb2.cell (b:=w.heap.size+1) (by first | omega | (simp;done) | (simp;omega));have hf2_1:=hb2.frozen (b:=w.heap.size+1) (by first | omega | (simp;done) | (simp;omega))) | (go_at_call 24;refine (H1.out _ (exx)).mono ?_;rintro e w1 ⟨rfl,hb1⟩;obtain ⟨hc1,hf1,hs1⟩:=hb1.cells;have hz1_0:w.heap.size < w1.heap.size:=(by have h:=hb1.le;(try simp at h);omega);have hc1_0:=hb1.cell (b:=w.heap.size) (by first | omega | (simp;done) | (simp;omega));have hf1_0:=hb1.frozen (b:=w.heap.size) (by first | omega | (simp;done) | (simp;omega));have hz1_1:w.heap.size+1 < w1.heap.size:=(by have h:=hb1.le;(try simp at h);omega);have hc1_1:=hb1.cell (b:=w.heap.size+1) (by first | omega | (simp;done) | (simp;omega));have hf1_1:=hb1.frozen (b:=w.heap.size+1) (by first | omega | (simp;done) | (simp;omega))) | (go_at_call 86;refine (H3.out _ (exx)).mono ?_;rintro e w3 ⟨rfl,hb3⟩;obtain ⟨hc3,hf3,hs3⟩:=hb3.cells;have hz3_0:w.heap.size < w3.heap.size:=(by have h:=hb3.le;(try simp at h);omega);have hc3_0:=hb3.cell (b:=w.heap.size) (by first | omega | (simp;done) | (simp;omega));have hf3_0:=hb3.frozen (b:=w.heap.size) (by first | omega | (simp;done) | (simp;omega));have hz3_1:w.heap.size+1 < w3.heap.size:=(by have h:=hb3.le;(try simp at h);omega);have hc3_1:=hb3.cell (b:=w.heap.size+1) (by first | omega | (simp;done) | (simp;omega));have hf3_1:=hb3.frozen (b:=w.heap.size+1) (by first | omega | (simp;done) | (simp;omega))))
  refine cut_world (F:=fun W=>Hid (Ext w W)/\W.cell? ⟨w.heap.size,3,none⟩=some (.slice L.pn n L.cn)/\W.cell? ⟨w.heap.size+1,3,none⟩=some (.slice M.pn n M.cn)) ⟨hZ (exx), ?a1, ?a2⟩ ?rest
  case a1=>go_simp
  case a2=>go_simp
  case rest=>
  intro w0 ⟨E0,c3,d3⟩;have H0:=hZ (H.out.ext E0.out);have K0:=hZ (K.out.ext E0.out);clear H K H1 H2 H3 hb1 hb2 hb3;generalize w.heap.size+1=bb at d3 ⊢;generalize w.heap.size=ba at c3 ⊢;have za:=cell_lt c3;have zb:=cell_lt d3
  go_wp2_with fail
  go_loopg [5] n (fun g i wr=>∃ j:Nat,j<=n/\n-j<=g/\i = .int .i64 j/\Aside (Ext w0 wr)/\Aside (∀ i,i < j->N[i]? = N'[i]?))
  case atStart=>exact ⟨0,Nat.zero_le _,by omega,rfl,Ext.refl _,fun m hm=>absurd hm (Nat.not_lt_zero _)⟩
  case round=>
   obtain ⟨j,hj,hg,rfl,HE,HA⟩:=hrel;have c3w:=(HE.out.cell za 3).trans c3;have d3w:=(HE.out.cell zb 3).trans d3;have zar:=Nat.lt_of_lt_of_le za HE.out.le;have zbr:=Nat.lt_of_lt_of_le zb HE.out.le
   by_cases hlt:j < n
   . obtain ⟨⟨v,ks⟩,hf⟩:=get_list (E:=N) (j:=j) (by rw [HL.out];exact hlt);obtain ⟨⟨v',ks'⟩,hf'⟩:=get_list (E:=N') (j:=j) (by rw [<- HM.out,HL.out];exact hlt);obtain ⟨⟨q1,q2⟩,hq⟩:=get_list (E:=L.K) (j:=j) (by rw [HK.out,HL.out];exact hlt);obtain ⟨⟨q1',q2'⟩,hq'⟩:=get_list (E:=M.K) (j:=j) (by rw [HK'.out,<- HM.out,HL.out];exact hlt);have H4:=hZ (H0.out.ext HE.out);have K4:=hZ (K0.out.ext HE.out);obtain ⟨b,oo,hpn,hb,hc⟩:=H4.out.node_cells (by rw [HL.out];omega);obtain ⟨b',oo',hpn',hb',hc'⟩:=K4.out.node_cells (by rw [<- HM.out,HL.out];omega);rw [hpn] at c3w;rw [hpn'] at d3w;obtain ⟨g1,g2⟩:=hc j _ _ hf hq;obtain ⟨k1,k2⟩:=hc' j _ _ hf' hq';simp only at g1 g2 k1 k2;have SK:=hZ (H4.out.ks j _ _ hf hq);have SK':=hZ (K4.out.ks j _ _ hf' hq');obtain ⟨bs,hbs⟩:∃ bs,decide (ks=ks')=bs:=⟨_,rfl⟩
     have SM:=hZ (fun W (hE:Ext wr W)=>dSame_is hbs (SK.out.ext hE) (SK'.out.ext hE));simp only at SM;have HBS:=hZ hbs;have HF:=hZ hf;have HF':=hZ hf';have tk:decide ((j:Int) < (n:Int))=true:=dT;clear hf hc hf' hc' hq hq' SK SK' hbs hpn hpn';have e:∀ (v1 v2:Int) (k1 k2:List Int),(v1,k1) ≠ (v2,k2)->N[j]? = some (v1,k1)->N'[j]? = some (v2,k2)->decide (N=N')=false:=fun v1 v2 k1 k2 hne e1 e2=>by
      apply decide_eq_false;rintro rfl;rw [e1] at e2;exact hne (Option.some.inj e2)
     have EE:=hZ e;clear e
     by_cases he:v=v'
     . subst he
       go_wp2_with fail
       have pr61a:=fun u_ (h_:Ext wr u_)=>(h_.cell zar 3).trans c3w
       have pr61b:=fun u_ (h_:Ext wr u_)=>(h_.cell zbr 3).trans d3w
       have pr61c:=fun u_ (h_:Ext wr u_)=>(h_.cell hb (oo+j * 2)).trans g1
       have pr61d:=fun u_ (h_:Ext wr u_)=>(h_.cell hb' (oo'+j * 2)).trans k1
       have pr61e:=fun u_ (h_:Ext wr u_)=>(h_.cell hb (oo+j * 2+1)).trans g2
       have pr61f:=fun u_ (h_:Ext wr u_)=>(h_.cell hb' (oo'+j * 2+1)).trans k2
       refine wp_region_seq (S:=fun W=>Ext wr W) (R:=Ext) (by kernel_rfl) Ext.refl ?_ ?_
       . exact exx
       refine' tkL 0 ?_;refine' tkL 1 ?_;refine' tkL 2 ?_;refine' tkL 3 ?_;refine' tkL 4 ?_;refine' tkL 5 ?_;refine' tkL 6 ?_;refine' tkL 7 ?_;refine' tkL 8 ?_;refine' tkL 9 ?_;refine' tkL 10 ?_;refine' tkL 11 ?_;refine' tkL 12 ?_;refine' tkL 13 ?_;refine' tkL 14 ?_;refine' tkL 15 ?_;refine' tkL 16 ?_;refine' tkL 17 ?_;refine' tkL 18 ?_;refine' tkL 19 ?_;refine' tkL 20 ?_;refine' tkL 21 ?_;refine' tkL 22 ?_;refine' tkL 23 ?_;refine' tkL 24 ?_;refine' tkL 25 ?_;refine' tkR 26 (v:=.bool bs) rfl (Or.inr ⟨by rfl,24,_, ?hx26_27, ?hy26_27⟩) ?rest26_27
       case hx26_27=>(intro w hSw;go_simp;try with_reducible rfl)
       case hy26_27=>exact fun w hE=>(SM.out _ hE).mono (fun _ _ h=>⟨h.1,h.2,Ext.trans hE h.2⟩)
       refine layy ?_;refine' tkL 27 ?_;refine' tkL 28 ?_;refine wpAnyR_done (by kernel_rfl) ?_ _;intro x1 _ Ex1;clear pr61a pr61b pr61c pr61d pr61e pr61f
       cases bs with
       | true=>
        go_wp2_with fail
        go_roundg (n-(j+1))
        case measure=>omega
        case rel=>
         refine ⟨j+1,by omega,by omega,by go_num,(show Aside _ from HE.out.trans Ex1),(show Aside _ from fun i hi=>?_)⟩
         by_cases e:i=j
         . subst e;rw [HF.out,HF'.out];have:=of_decide_eq_true HBS.out;rw [this]
         exact HA.out i (by omega)
       | false=>
        go_wp2_with fail
        go_returns;rw [EE.out _ _ _ _ (fun e=>(of_decide_eq_false HBS.out) (Prod.mk.inj e).2) HF.out HF'.out];exact ⟨rfl,(E0.out.trans HE.out).trans Ex1⟩
     have e1:(v != v')=true:=by simpa using he
     go_wp2_with fail
     have pr62a:=fun u_ (h_:Ext wr u_)=>(h_.cell zar 3).trans c3w
     have pr62b:=fun u_ (h_:Ext wr u_)=>(h_.cell zbr 3).trans d3w
     have pr62c:=fun u_ (h_:Ext wr u_)=>(h_.cell hb (oo+j * 2)).trans g1
     have pr62d:=fun u_ (h_:Ext wr u_)=>(h_.cell hb' (oo'+j * 2)).trans k1
     refine wp_region_seq (S:=fun W=>Ext wr W) (R:=Ext) (by kernel_rfl) Ext.refl ?_ ?_
     . exact exx
     refine' tkL 0 ?_;refine' tkL 1 ?_;refine' tkL 2 ?_;refine' tkL 3 ?_;refine' tkL 4 ?_;refine' tkL 5 ?_;refine' tkL 6 ?_;refine' tkL 7 ?_;refine' tkL 8 ?_;refine' tkL 9 ?_;refine' tkL 10 ?_;refine' tkL 11 ?_;refine' tkL 12 ?_;refine' tkL 13 ?_;refine' tkN 14 ?_;refine' tkN 15 ?_;refine' tkN 16 ?_;refine' tkN 17 ?_;refine' tkN 18 ?_;refine' tkN 19 ?_;refine' tkN 20 ?_;refine' tkN 21 ?_;refine' tkN 22 ?_;refine' tkN 23 ?_;refine' tkN 24 ?_;refine' tkN 25 ?_;refine' tkN 26 ?_;refine' tkN 27 ?_;refine' tkL 28 ?_;refine wpAnyR_done (by kernel_rfl) ?_ _;intro x1 _ Ex1;clear pr62a pr62b pr62c pr62d
     go_wp2_with fail
     go_returns;rw [EE.out _ _ _ _ (fun e=>he (Prod.mk.inj e).1) HF.out HF'.out];exact ⟨rfl,(E0.out.trans HE.out).trans Ex1⟩
   have:j=n:=by omega
   subst this;have tk:decide ((j:Int) < (j:Int))=false:=dF
   go_wp2_with fail
   go_returns;rw [decide_eq_true (list_eq_of_get HM.out (by rw [HL.out];exact HA.out))];exact ⟨rfl,E0.out.trans HE.out⟩
end Go.Proofs.YtdokmmhjmclmnaaGreat
