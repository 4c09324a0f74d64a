/-
  Part 28 of a proof: LD4 PD1 GR5 GR7 LL2 PD2 PD3 PD4 PD5 PD6 PO2 PO3 PO4 PO5 PO6 PO7 PO8.
-/
import Derived.Test.YtdokmmhjmclmnaaGreatMV03
import Derived.Test.YtdokmmhjmclmnaaGreatMV05
import Derived.Test.YtdokmmhjmclmnaaGreatMV09
import Derived.Test.YtdokmmhjmclmnaaGreatMV11
import Derived.Test.YtdokmmhjmclmnaaGreatMV15
import Derived.Test.YtdokmmhjmclmnaaGreatMV17
import Derived.Test.YtdokmmhjmclmnaaGreatMV19
import Derived.Test.YtdokmmhjmclmnaaGreatMV22
import Derived.Test.YtdokmmhjmclmnaaGreatMV25
import Derived.Test.YtdokmmhjmclmnaaGreatMV26
import Derived.Test.YtdokmmhjmclmnaaGreatMV27
set_option linter.unusedSimpArgs false
set_option linter.unusedVariables false
set_option linter.unusedSectionVars false
set_option linter.unnecessarySimpa false
namespace Go.Proofs.YtdokmmhjmclmnaaGreat
variable {W' w w' w0 wb:World} {B a b base c cap ce cn f g gb i j k lb m n oc s sc:Nat} {choice t x:Int} {G W fs l o xs z:List Int} {L:List Hp.Tl} {r:Rd} {S S':Hp.Hs} {A N T:List Nat} {M:List (Nat × Int)} {op p pe pn q sp:Option Addr} {d:Hd} {acts:List Hp.Act'}
open Go.RowKit Go.Maps
theorem zip_nodeC_get {N:List (Int × List Int)} {K:List (Option Addr × Nat)} {q:Int × List Int} {k:Option Addr × Nat} (h:N[j]? = some q) (hk:K[j]? = some k):(List.zipWith nodeC N K)[j]? = some [.int .i64 q.1,.slice k.1 q.2.length k.2]:=by
 rw [List.getElem?_zipWith,h,hk]
 rfl
theorem zip_nodeC_len {N:List (Int × List Int)} {K:List (Option Addr × Nat)} (h:K.length=N.length):(List.zipWith nodeC N K).length=N.length:=by
 rw [List.length_zipWith,h,Nat.min_self]
theorem DgRd.node_cells {L:DgL} {E:List (Int × Int)} {N:List (Int × List Int)} (h:DgRd w L z o E N) (h0:0 < N.length):∃ b o,L.pn=some ⟨b,o,none⟩/\b < w.heap.size /\
    ∀ (j:Nat) (q:Int × List Int) (k:Option Addr × Nat),N[j]? = some q->L.K[j]? = some k->w.cell? ⟨b,o+j * 2,none⟩=some (.int .i64 q.1)/\w.cell? ⟨b,o+j * 2+1,none⟩=some (.slice k.1 q.2.length k.2):=by
  obtain ⟨b,o',e,hb,hc⟩:=h.n.cells (by rw [zip_nodeC_len h.kl];exact h0);refine ⟨b,o',e,hb,fun j q k hq hk=>⟨?_, ?_⟩⟩
  . exact hc j _ 0 _ (zip_nodeC_get hq hk) rfl
  exact hc j _ 1 _ (zip_nodeC_get hq hk) rfl
set_option maxRecDepth 100000 in
set_option maxHeartbeats 8000000 in
theorem dEqual_loop {L M:DgL} {E:List (Int × Int)} {N N':List (Int × List Int)} (h:DgRd w L z o E N) (k:DgRd w M z o E N') (hne:N.length=N'.length) :
    Calls Tryz.prog 27 #[.agg #[.slice L.ps z.length L.cs,.slice L.po o.length L.co,.slice L.pe E.length L.ce,.slice L.pn N.length L.cn,.int .i64 x],.agg #[.slice M.ps z.length M.cs,.slice M.po o.length M.co,.slice M.pe E.length M.ce,.slice M.pn N.length M.cn,.int .i64 x]] w fun e w'=>e = .returned (.bool (decide (N=N')))/\Ext w w':=by
  have H:=hZ h;have K:=hZ k;have H1:=hZ (fun W (hE:Ext w W)=>dSame_is (b:=true) (by simp) (H.out.s.ext hE) (K.out.s.ext hE));have H2:=hZ (fun W (hE:Ext w W)=>dSame_is (b:=true) (by simp) (H.out.o.ext hE) (K.out.o.ext hE));have H3:=hZ (fun W (hE:Ext w W)=>by have:=dAlike_any (H.out.e.ext hE) (K.out.e.ext hE);rw [decide_eq_true (rfl:E=E)] at this;exact this);have l1:=h.s.le;have l2:=h.o.le;have l3:=h.e.le;have l4:=h.n.le;have l4':=k.n.le;have c4:=h.n.cap;have c4':=k.n.cap;rw [List.length_map] at l3;rw [zip_nodeC_len h.kl] at l4;rw [zip_nodeC_len k.kl,<- hne] at l4';have HK:=hZ h.kl;have HK':=hZ k.kl;have HM:=hZ hne;clear h k hne;generalize hL:N.length=n at l4 l4' ⊢;have HL:=hZ hL;generalize z.length=nz at *;generalize o.length=no at *;generalize E.length=ne at *;clear hL;have mixed:Tryz.prog.follows .mixedOrders=true:=by kernel_rfl
  go_enter Tryz.func27,Tryz.ntmps27;go_upto_region 3 with (first | (have _t:=hb1;go_at_call 24;refine (H2.out _ (exx)).mono ?_;rintro e w2 ⟨rfl,hb2⟩;obtain ⟨hc2,hf2,hs2⟩:=hb2.cells;have hz2_0:w.heap.size < w2.heap.size:=(by have h:=hb2.le;(try simp at h);omega);have hc2_0:=hb2.cell (b:=w.heap.size) (by first | omega | (simp;done) | (simp;omega));have hf2_0:=hb2.frozen (b:=w.heap.size) (by first | omega | (simp;done) | (simp;omega));have hz2_1:w.heap.size+1 < w2.heap.size:=(by have h:=hb2.le;(try simp at h);omega);have hc2_1:=hb2.cell (b:=w.heap.size+1) (by first | omega | (simp;done) | (simp;omega));have hf2_1:=hb2.frozen (b:=w.heap.size+1) (by first | omega | (simp;done) | (simp;omega))) | (go_at_call 24;refine (H1.out _ (exx)).mono ?_;rintro e w1 ⟨rfl,hb1⟩;obtain ⟨hc1,hf1,hs1⟩:=hb1.cells;have hz1_0:w.heap.size < w1.heap.size:=(by have h:=hb1.le;(try simp at h);omega);have hc1_0:=hb1.cell (b:=w.heap.size) (by first | omega | (simp;done) | (simp;omega));have hf1_0:=hb1.frozen (b:=w.heap.size) (by first | omega | (simp;done) | (simp;omega));have hz1_1:w.heap.size+1 < w1.heap.size:=(by have h:=hb1.le;(try simp at h);omega);have hc1_1:=hb1.cell (b:=w.heap.size+1) (by first | omega | (simp;done) | (simp;omega));have hf1_1:=hb1.frozen (b:=w.heap.size+1) (by first | omega | (simp;done) | (simp;omega))) | (go_at_call 86;refine (H3.out _ (exx)).mono ?_;rintro e w3 ⟨rfl,hb3⟩;obtain ⟨hc3,hf3,hs3⟩:=hb3.cells;have hz3_0:w.heap.size < w3.heap.size:=(by have h:=hb3.le;(try simp at h);omega);have hc3_0:=hb3.cell (b:=w.heap.size) (by first | omega | (simp;done) | (simp;omega));have hf3_0:=hb3.frozen (b:=w.heap.size) (by first | omega | (simp;done) | (simp;omega));have hz3_1:w.heap.size+1 < w3.heap.size:=(by have h:=hb3.le;(try simp at h);omega);have hc3_1:=hb3.cell (b:=w.heap.size+1) (by first | omega | (simp;done) | (simp;omega));have hf3_1:=hb3.frozen (b:=w.heap.size+1) (by first | omega | (simp;done) | (simp;omega))))
  refine cut_world (F:=fun W=>Hid (Ext w W)/\W.cell? ⟨w.heap.size,3,none⟩=some (.slice L.pn n L.cn)/\W.cell? ⟨w.heap.size+1,3,none⟩=some (.slice M.pn n M.cn)) ⟨hZ (exx), ?a1, ?a2⟩ ?rest
  case a1=>go_simp
  case a2=>go_simp
  case rest=>
  intro w0 ⟨E0,c3,d3⟩;have H0:=hZ (H.out.ext E0.out);have K0:=hZ (K.out.ext E0.out);clear H K H1 H2 H3 hb1 hb2 hb3;generalize w.heap.size+1=bb at d3 ⊢;generalize w.heap.size=ba at c3 ⊢;have za:=cell_lt c3;have zb:=cell_lt d3
  go_wp2_with fail
  go_loopg [5] n (fun g i wr=>∃ j:Nat,j<=n/\n-j<=g/\i = .int .i64 j/\Aside (Ext w0 wr)/\Aside (∀ i,i < j->N[i]? = N'[i]?))
  case atStart=>exact ⟨0,Nat.zero_le _,by omega,rfl,Ext.refl _,fun m hm=>absurd hm (Nat.not_lt_zero _)⟩
  case round=>
   obtain ⟨j,hj,hg,rfl,HE,HA⟩:=hrel;have c3w:=(HE.out.cell za 3).trans c3;have d3w:=(HE.out.cell zb 3).trans d3;have zar:=Nat.lt_of_lt_of_le za HE.out.le;have zbr:=Nat.lt_of_lt_of_le zb HE.out.le
   by_cases hlt:j < n
   . obtain ⟨⟨v,ks⟩,hf⟩:=get_list (E:=N) (j:=j) (by rw [HL.out];exact hlt);obtain ⟨⟨v',ks'⟩,hf'⟩:=get_list (E:=N') (j:=j) (by rw [<- HM.out,HL.out];exact hlt);obtain ⟨⟨q1,q2⟩,hq⟩:=get_list (E:=L.K) (j:=j) (by rw [HK.out,HL.out];exact hlt);obtain ⟨⟨q1',q2'⟩,hq'⟩:=get_list (E:=M.K) (j:=j) (by rw [HK'.out,<- HM.out,HL.out];exact hlt);have H4:=hZ (H0.out.ext HE.out);have K4:=hZ (K0.out.ext HE.out);obtain ⟨b,oo,hpn,hb,hc⟩:=H4.out.node_cells (by rw [HL.out];omega);obtain ⟨b',oo',hpn',hb',hc'⟩:=K4.out.node_cells (by rw [<- HM.out,HL.out];omega);rw [hpn] at c3w;rw [hpn'] at d3w;obtain ⟨g1,g2⟩:=hc j _ _ hf hq;obtain ⟨k1,k2⟩:=hc' j _ _ hf' hq';simp only at g1 g2 k1 k2;have SK:=hZ (H4.out.ks j _ _ hf hq);have SK':=hZ (K4.out.ks j _ _ hf' hq');obtain ⟨bs,hbs⟩:∃ bs,decide (ks=ks')=bs:=⟨_,rfl⟩
     have SM:=hZ (fun W (hE:Ext wr W)=>dSame_is hbs (SK.out.ext hE) (SK'.out.ext hE));simp only at SM;have HBS:=hZ hbs;have HF:=hZ hf;have HF':=hZ hf';have tk:decide ((j:Int) < (n:Int))=true:=dT;clear hf hc hf' hc' hq hq' SK SK' hbs hpn hpn';have e:∀ (v1 v2:Int) (k1 k2:List Int),(v1,k1) ≠ (v2,k2)->N[j]? = some (v1,k1)->N'[j]? = some (v2,k2)->decide (N=N')=false:=fun v1 v2 k1 k2 hne e1 e2=>by
      apply decide_eq_false;rintro rfl;rw [e1] at e2;exact hne (Option.some.inj e2)
     have EE:=hZ e;clear e
     by_cases he:v=v'
     . subst he
       go_wp2_with fail
       have pr63a:=fun u_ (h_:Ext wr u_)=>(h_.cell zar 3).trans c3w
       have pr63b:=fun u_ (h_:Ext wr u_)=>(h_.cell zbr 3).trans d3w
       have pr63c:=fun u_ (h_:Ext wr u_)=>(h_.cell hb (oo+j * 2)).trans g1
       have pr63d:=fun u_ (h_:Ext wr u_)=>(h_.cell hb' (oo'+j * 2)).trans k1
       have pr63e:=fun u_ (h_:Ext wr u_)=>(h_.cell hb (oo+j * 2+1)).trans g2
       have pr63f:=fun u_ (h_:Ext wr u_)=>(h_.cell hb' (oo'+j * 2+1)).trans k2
       refine wp_region_seq (S:=fun W=>Ext wr W) (R:=Ext) (by kernel_rfl) Ext.refl ?_ ?_
       . exact exx
       refine' tkL 0 ?_;refine' tkL 1 ?_;refine' tkL 2 ?_;refine' tkL 3 ?_;refine' tkL 4 ?_;refine' tkL 5 ?_;refine' tkL 6 ?_;refine' tkL 7 ?_;refine' tkL 8 ?_;refine' tkL 9 ?_;refine' tkL 10 ?_;refine' tkL 11 ?_;refine' tkL 12 ?_;refine' tkL 13 ?_;refine' tkL 14 ?_;refine' tkL 15 ?_;refine' tkL 16 ?_;refine' tkL 17 ?_;refine' tkL 18 ?_;refine' tkL 19 ?_;refine' tkL 20 ?_;refine' tkL 21 ?_;refine' tkL 22 ?_;refine' tkL 23 ?_;refine' tkL 24 ?_;refine' tkL 25 ?_;refine' tkR 26 (v:=.bool bs) rfl (Or.inr ⟨by rfl,24,_, ?hx26_1439, ?hy26_1439⟩) ?rest26_1439
       case hx26_1439=>(intro w hSw;go_simp;try with_reducible rfl)
       case hy26_1439=>exact fun w hE=>(SM.out _ hE).mono (fun _ _ h=>⟨h.1,h.2,Ext.trans hE h.2⟩)
       refine layy ?_;refine' tkL 27 ?_;refine' tkL 28 ?_;refine wpAnyR_done (by kernel_rfl) ?_ _;intro x1 _ Ex1;clear pr63a pr63b pr63c pr63d pr63e pr63f
       cases bs with
       | true=>
        go_wp2_with fail
        go_roundg (n-(j+1))
        case measure=>omega
        case rel=>
         refine ⟨j+1,by omega,by omega,by go_num,(show Aside _ from HE.out.trans Ex1),(show Aside _ from fun i hi=>?_)⟩
         by_cases e:i=j
         . subst e;rw [HF.out,HF'.out];have:=of_decide_eq_true HBS.out;rw [this]
         exact HA.out i (by omega)
       | false=>
        go_wp2_with fail
        go_returns;rw [EE.out _ _ _ _ (fun e=>(of_decide_eq_false HBS.out) (Prod.mk.inj e).2) HF.out HF'.out];exact ⟨rfl,(E0.out.trans HE.out).trans Ex1⟩
     have e1:(v != v')=true:=by simpa using he
     go_wp2_with fail
     have pr64a:=fun u_ (h_:Ext wr u_)=>(h_.cell zar 3).trans c3w
     have pr64b:=fun u_ (h_:Ext wr u_)=>(h_.cell zbr 3).trans d3w
     have pr64c:=fun u_ (h_:Ext wr u_)=>(h_.cell hb (oo+j * 2)).trans g1
     have pr64d:=fun u_ (h_:Ext wr u_)=>(h_.cell hb' (oo'+j * 2)).trans k1
     refine wp_region_seq (S:=fun W=>Ext wr W) (R:=Ext) (by kernel_rfl) Ext.refl ?_ ?_
     . exact exx
     refine' tkL 0 ?_;refine' tkL 1 ?_;refine' tkL 2 ?_;refine' tkL 3 ?_;refine' tkL 4 ?_;refine' tkL 5 ?_;refine' tkL 6 ?_;refine' tkL 7 ?_;refine' tkL 8 ?_;refine' tkL 9 ?_;refine' tkL 10 ?_;refine' tkL 11 ?_;refine' tkL 12 ?_;refine' tkL 13 ?_;refine' tkN 14 ?_;refine' tkN 15 ?_;refine' tkN 16 ?_;refine' tkN 17 ?_;refine' tkN 18 ?_;refine' tkN 19 ?_;refine' tkN 20 ?_;refine' tkN 21 ?_;refine' tkN 22 ?_;refine' tkN 23 ?_;refine' tkN 24 ?_;refine' tkN 25 ?_;refine' tkN 26 ?_;refine' tkN 27 ?_;refine' tkL 28 ?_;refine wpAnyR_done (by kernel_rfl) ?_ _;intro x1 _ Ex1;clear pr64a pr64b pr64c pr64d
     go_wp2_with fail
     go_returns;rw [EE.out _ _ _ _ (fun e=>he (Prod.mk.inj e).1) HF.out HF'.out];exact ⟨rfl,(E0.out.trans HE.out).trans Ex1⟩
   have:j=n:=by omega
   subst this;have tk:decide ((j:Int) < (j:Int))=false:=dF
   go_wp2_with fail
   go_returns;rw [decide_eq_true (list_eq_of_get HM.out (by rw [HL.out];exact HA.out))];exact ⟨rfl,E0.out.trans HE.out⟩
def cellOk (v:Int × Int):Bool:=if v.1=0 then Hp.within (-9999) 9999 v.2 else decide (v.1<=4) && decide (v.2=0)
set_option maxHeartbeats 4000000 in
theorem dIsCell (f n:Int) (h0:0<=f) :
    Calls Tryz.prog 134 #[.agg #[.int .u8 f,.int .i64 n]] w fun e w'=>e = .returned (.bool (cellOk (f,n)))/\Ext w w':=by
  by_cases hf:f=0
  . subst hf;have e:cellOk (0,n)=Hp.within (-9999) 9999 n:=by unfold cellOk;rw [if_pos rfl]
    rw [e];have HI:=hZ (fun W=>dIn n (-9999) 9999 W);go_enter Tryz.func134,Tryz.ntmps134
    go_wp2_with (go_at_call 66;refine (HI.out _).mono ?_;rintro e w1 ⟨rfl,hb1⟩;obtain ⟨hc1,hf1,hs1⟩:=hb1.cells)
    go_returns;exact ⟨rfl,exx⟩
  have t0:(f == 0)=false:=by simpa using hf
  by_cases h4:f<=4
  . have t1:decide (f<=4)=true:=decide_eq_true h4;have e:cellOk (f,n)=(n == 0):=by
     unfold cellOk;rw [if_neg hf];simp only [t1,Bool.true_and]
     by_cases hn:n=0
     . simp [hn]
     simp [hn]
    rw [e];clear e hf h4;go_enter Tryz.func134,Tryz.ntmps134
    go_wp2_with fail
    go_returns;exact ⟨rfl,exx⟩
  have t1:decide (f<=4)=false:=decide_eq_false h4;have e:cellOk (f,n)=false:=by
   unfold cellOk;rw [if_neg hf];simp only [t1,Bool.false_and]
  rw [e];clear e hf h4;go_enter Tryz.func134,Tryz.ntmps134
  go_wp2_with fail
  go_returns;exact ⟨rfl,exx⟩
def refB (r:Int) (below:Nat) (ne:Nat):Bool:=if 0<=r then decide (r < below) else decide (-1-r < ne)
theorem refB_iff {d:Nd.Dia} {r:Int}:refB r n d.ends.length=true ↔ d.Ref r n:=by
 unfold refB Nd.Dia.Ref
 split <;> simp <;> omega
def rankO (d:Nd.Dia) (r:Int):Int:=if r < 0 then d.order.length else if Hp.index d.order (d.nodeAt r.toNat).1 < 0 then d.order.length else Hp.index d.order (d.nodeAt r.toNat).1
set_option maxRecDepth 100000 in
set_option maxHeartbeats 16000000 in
theorem rCheckCells_t (h:RAt w r S) (hw:Hp.Tw S L) :
    Calls Tryz.prog 70 #[.pointer (some ⟨r.rb,0,none⟩)] w fun e w'=>∃ b,e = .returned (.bool b)/\Ext w w'/\(b=true->Hp.Cells (Hp.ow S.words) S.sizes S.order S.taken/\(∀ a ∈ S.taken,0<=Hp.ow S.words (a+2))/\Hp.Uses (Hp.ow S.words) S.sizes S.taken S.taken):=by
  have CELLS:=hZ (rCells_t h hw);have FLD:=hZ (fun b (hb:b ∈ S.taken) W (hW:Ext w W)=>rField_t (h.ext hW) hw hb);have FAT:=hZ (fun b (hb:b ∈ S.taken) W (hW:Ext w W)=>fieldAt_t (h.ext hW) hw hb);have NODE:=hZ (fun b (hb:b ∈ S.taken) W (hW:Ext w W)=>rIsNode (h.ext hW) (a:=b) (by have:=hw.part hb;omega));have SAME:=hZ (fun b (hb:b ∈ S.taken) W (hW:Ext w W)=>rSame_t (h.ext hW) hw hb (fieldAt_t (h.ext hW) hw hb));have HW:=hZ hw;have lo:=hw.lo;have hi:=hw.hi;have few:=hw.few;have H:=hZ h;have hle:=h.words.le;have hcap:=h.words.cap;have hlt:=h.lt;have c2:=h.c2;obtain ⟨gbb,o',hp',hbb,_⟩:=h.words.cells (by omega)
  cases hp'
  obtain ⟨n,hn⟩:∃ n,S.words.length=n:=⟨_,rfl⟩
  have EN:=hZ hn;rw [hn] at lo hi hle c2;obtain ⟨m,hm⟩:∃ m,S.taken.length=m:=⟨_,rfl⟩
  have EM:=hZ hm;rw [hm] at few;clear h hw hn hm;go_enter Tryz.func70,Tryz.ntmps70
  go_wp2_with (go_at_call 82;refine CELLS.out.mono ?_;rintro e w1 ⟨p,c,rfl,hR,hE⟩;rw [cellsI_len,EM.out];have RR:=hZ hR.at_;have E1:=hZ hE)
  clear hR hE CELLS;have lle:=RR.out.le;have lcap:=RR.out.cap;rw [cellsI_len,EM.out] at lle
  go_loopg [4] m (fun g i wr=>∃ j:Nat,j<=m/\m-j<=g/\i = .int .i64 j/\Hid (Ext w1 wr)/\Hid (∀ (i a:Nat),i < j->S.taken[i]? = some a->Hp.CellFit S a))
  case atStart=>exact ⟨0,Nat.zero_le _,by omega,rfl,hZ (Ext.refl _),hZ (fun i a hi=>absurd hi (Nat.not_lt_zero _))⟩
  case round=>
   obtain ⟨j,hj,hg,rfl,E,FIT⟩:=hrel;have Ew:=E1.out.trans E.out;have zb:r.rb < wr.heap.size:=Nat.lt_of_lt_of_le hlt Ew.le;have zg:r.gb < wr.heap.size:=Nat.lt_of_lt_of_le hbb Ew.le;have EW:=hZ Ew;clear Ew
   by_cases hlt2:j < m
   . obtain ⟨a,ha,haj,hrd⟩:=cellsI_rd (S:=S) (j:=j) (by rw [EM.out];exact hlt2);obtain ⟨lb,lo',hlp,hlbb,hlc⟩:=(RR.out.ext E.out).cells (by rw [cellsI_len,EM.out];omega);have gl:=hlc j _ hrd;have tk:decide ((j:Int) < (m:Int))=true:=dT;have pa:=HW.out.part ha;rw [EN.out] at pa;obtain ⟨fl,hfl⟩:∃ fl,(Hp.fz (Hp.ow S.words) S.sizes a).length=fl:=⟨_,rfl⟩
     obtain ⟨t,ht⟩:∃ t,Hp.ow S.words a=t:=⟨_,rfl⟩
     have FLB:Hid (∀ W,Ext w W->Calls Tryz.prog 88 #[.pointer (some ⟨r.rb,0,none⟩),.int .i64 a] W fun e w'=>e = .returned (.slice (some ⟨r.gb,r.go+(a+4),none⟩) fl (r.wc-(a+4)))/\Ext W w'):=hZ (fun W hW=>by rw [<- hfl];exact FLD.out a ha W hW);have SMB:Hid (∀ W,Ext w W->Calls Tryz.prog 133 #[.pointer (some ⟨r.rb,0,none⟩),.int .i64 t,.slice (some ⟨r.gb,r.go+(a+4),none⟩) fl (r.wc-(a+4))] W fun e w'=>∃ v:Int,e = .returned (.int .i64 v)/\Ext W w'/\(v=(a:Int) -> ∀ b ∈ S.taken,b < a -> ¬ (Hp.ow S.words b=Hp.ow S.words a/\Hp.fz (Hp.ow S.words) S.sizes b=Hp.fz (Hp.ow S.words) S.sizes a))):=hZ (fun W hW=>by rw [<- hfl];exact ht ▸ SAME.out a ha W hW);obtain ⟨q,hq⟩:∃ q,Hp.ow S.words (a+2)=q:=⟨_,rfl⟩
     have HQ:=hZ hq;have HAJ:=hZ haj;have s2:(a:Int)+2 < (n:Int):=by omega
     have u1:((a:Int) != (a:Int))=false:=by simp
     have an:a < n:=by omega
     have WD:Hid (∀ W,Ext w W->W.cell? ⟨r.rb,2,none⟩=some (.slice (some ⟨r.gb,r.go,none⟩) n r.wc)/\W.cell? ⟨r.gb,r.go+a,none⟩=some (.int .i64 t)/\W.cell? ⟨r.gb,r.go+(a+2),none⟩=some (.int .i64 q)):=hZ (fun W hW=>⟨(hW.cell hlt 2).trans c2,by rw [<- ht];exact (H.out.ext hW).get (by rw [EN.out];omega),by rw [<- hq];exact (H.out.ext hW).get (by rw [EN.out];omega)⟩);have HAT:=hZ ha;have HFL:=hZ hfl;have HT:=hZ ht;have hto:=HW.out.tag_le ha;rw [ht] at hto;have flb:fl<=12:=by rw [<- hfl,Hp.fz_length];omega
     clear hrd hlc haj ha hfl ht hq;subst hlp;go_upto_region 5 with (fail)
     have pr65a:=fun u_ (h_:Ext wr u_)=>(h_.cell hlbb (lo'+j)).trans gl
     refine wp_region_seq (S:=fun W=>Ext wr W) (R:=Ext) (by kernel_rfl) Ext.refl ?_ ?_
     . exact exx
     refine' tkL 0 ?_;refine' tkL 1 ?_;refine' tkL 2 ?_;refine' tkL 3 ?_;refine' tkL 4 ?_;refine' tkL 5 ?_;refine' tkL 6 ?_;refine' tkL 7 ?_;refine' tkL 8 ?_;refine' tkR 9 (v:=.slice (some ⟨r.gb,r.go+(a+4),none⟩) fl (r.wc-(a+4))) rfl (Or.inr ⟨by rfl,88,_, ?hx9_1480, ?hy9_1480⟩) ?rest9_1480
     case hx9_1480=>(intro w hSw;go_simp;try with_reducible rfl)
     case hy9_1480=>exact fun w hE=>(FLB.out _ (EW.out.trans hE)).mono (fun _ _ h=>⟨h.1,h.2,Ext.trans hE h.2⟩)
     refine layy ?_;refine' tkL 10 ?_;refine' tkL 11 ?_;refine wpAnyR_done (by kernel_rfl) ?_ _;intro x1 _ Ex1;clear pr65a;have EW1:=hZ (EW.out.trans Ex1);have EE1:=hZ (E.out.trans Ex1);obtain ⟨k2,kx,kq⟩:=WD.out _ EW1.out;clear gl EW E Ex1
     by_cases hq0:q < 0
     . have u0:decide (q < 0)=true:=decide_eq_true hq0;clear hq0
       go_wp2_with fail
       go_returns;exact ⟨false,rfl,EW1.out,fun e=>by cases e⟩
     have u0:decide (q < 0)=false:=decide_eq_false hq0;have HOLD:Hid (0<=Hp.ow S.words (a+2)):=hZ (by rw [HQ.out];omega);clear hq0
     cases he:Hp.isEnd t with
     | true=>
      have hE2:Hp.isEnd (Hp.ow S.words a)=true:=by rw [HT.out];exact he
      have tt:20<=t/\t<=24:=by
       unfold Hp.isEnd Hp.within at he
       simpa using he
      have NDB:Hid (∀ W,Ext w W->Calls Tryz.prog 87 #[.pointer (some ⟨r.rb,0,none⟩),.int .i64 a] W fun e w'=>e = .returned (.bool false)/\Ext W w'):=hZ (fun W hW=>by
       have:=NODE.out a HAT.out W hW;rw [HT.out,decide_eq_false (by omega:¬ t < 20)] at this;exact this)
      obtain ⟨y,hy⟩:∃ y,Hp.ow S.words (a+4)=y:=⟨_,rfl⟩
      have ATB:Hid (∀ W,Ext w W->Calls Tryz.prog 28 #[.pointer (some ⟨r.rb,0,none⟩),.int .i64 a] W fun e w'=>e = .returned (.tuple #[.agg #[.int .i64 (-1),.slice none 0 0],.agg #[.int .u8 (t-20),.int .i64 y]])/\Ext W w'):=hZ (fun W hW=>by
       have:=rAt_end_t (H.out.ext hW) HW.out HAT.out hE2;rw [HT.out,hy] at this;exact this)
      obtain ⟨cb,hcb⟩:∃ cb,cellOk (t-20,y)=cb:=⟨_,rfl⟩
      have HCB:=hZ hcb;have CELL:Hid (∀ W:World,Calls Tryz.prog 134 #[.agg #[.int .u8 (t-20),.int .i64 y]] W fun e w'=>e = .returned (.bool cb)/\Ext W w'):=hZ (fun W=>by rw [<- HCB.out];exact dIsCell _ _ (by omega));have HY:=hZ hy;have HEE:=hZ hE2;have TT:=hZ tt;clear he hE2 tt hy hcb
      go_wp2_with (first
       | (go_at_call 133;refine (SMB.out _ EW1.out).mono ?_;rintro e w2 ⟨sv,rfl,hE2,hsv⟩;by_cases hva:sv=(a:Int);rotate_left;(focus (have u1b:(sv != (a:Int))=true:=(by simpa using hva);clear hva hsv;go_wp2_with fail;go_returns;exact ⟨false,rfl,EW1.out.trans hE2,fun e=>by cases e⟩));subst hva;have ONE:=hZ (hsv rfl);clear hsv)
       | (go_at_call 87;refine (NDB.out _ (EW1.out.trans hE2)).mono ?_;rintro e w3 ⟨rfl,hE3⟩)
       | (go_at_call 28;refine (ATB.out _ (EW1.out.trans (hE2.trans hE3))).mono ?_;rintro e w4 ⟨rfl,hE4⟩)
       | (go_at_call 134;refine (CELL.out _).mono ?_;rintro e w5 ⟨rfl,hE5⟩;cases cb;(focus (go_wp2_with fail;go_returns;exact ⟨false,rfl,EW1.out.trans (hE2.trans (hE3.trans (hE4.trans (Ext.trans (exx) hE5)))),fun e=>by cases e⟩))))
      have E6:=hZ (EE1.out.trans (hE2.trans (hE3.trans (hE4.trans (Ext.trans (exx) hE5)))))
      have FITA:Hid (Hp.CellFit S a):=hZ
       { hold:=HOLD.out
         ends:=fun _=>by
          have h1:=HCB.out;have h2:=TT.out;rw [HY.out,HT.out];unfold cellOk at h1
          split at h1
          . have h3 : -9999<=y/\y<=9999:=by simpa [Hp.within] using h1
            exact ⟨h3.1,h3.2,fun e=>by omega⟩
          simp only [Bool.and_eq_true,decide_eq_true_eq] at h1;have h3:y=0:=h1.2;rw [h3];omega
         kids:=fun y hy=>by
          unfold Hp.kz at hy;rw [HEE.out] at hy
          cases hy
         flat:=fun e=>by rw [HEE.out] at e;cases e
         one:=ONE.out }
      have FIT2:Hid (∀ (i a:Nat),i < j+1->S.taken[i]? = some a->Hp.CellFit S a):=hZ (fun i b hi hb=>by
       by_cases e:i=j
       . subst e;rw [HAJ.out] at hb
         cases hb
         exact FITA.out
       . exact FIT.out i b (by omega) hb)
      go_roundg (m-(j+1))
      case measure=>omega
      case rel=>exact ⟨j+1,by omega,Nat.le_refl _,by go_num,E6,FIT2⟩
     | false=>
      have hE2:Hp.isEnd (Hp.ow S.words a)=false:=by rw [HT.out];exact he
      have hnd:=Hp.isNode_of (HW.out.tags HAT.out) hE2;have fw6:=HW.out.fr.few;simp only [Hp.isNode,Hp.within,Bool.and_eq_true,decide_eq_true_eq,HT.out] at hnd;have NDB:Hid (∀ W,Ext w W->Calls Tryz.prog 87 #[.pointer (some ⟨r.rb,0,none⟩),.int .i64 a] W fun e w'=>e = .returned (.bool true)/\Ext W w'):=hZ (fun W hW=>by
       have:=NODE.out a HAT.out W hW;rw [HT.out,decide_eq_true (by omega:t < 20)] at this;exact this)
      have CKN:Hid (∀ W,Ext w W->Calls Tryz.prog 135 #[.pointer (some ⟨r.rb,0,none⟩),.int .i64 (t-1),.slice (some ⟨r.gb,r.go+(a+4),none⟩) fl (r.wc-(a+4))] W fun e w'=>∃ v:Int,e = .returned (.int .i64 v)/\Ext W w'/\(v=0 -> ∀ x ∈ Hp.kz (Hp.ow S.words) S.sizes a,∃ b ∈ S.taken,x=(b:Int)/\Hp.rank S.order (Hp.ow S.words a) < Hp.rank S.order (Hp.ow S.words b))):=hZ (fun W hW=>by
       have:=rCheckNode_t (H.out.ext hW) HW.out HAT.out hE2 (FAT.out a HAT.out W hW);rw [HFL.out] at this;exact HT.out ▸ this)
      obtain ⟨fb,hfb⟩:∃ fb,Hp.Hs.alike (Hp.fz (Hp.ow S.words) S.sizes a)=fb:=⟨_,rfl⟩
      have HFB:=hZ hfb;have HEE:=hZ hE2;have FLT:Hid (∀ W,Ext w W->Calls Tryz.prog 136 #[.agg #[.int .i64 0,.slice (some ⟨r.gb,r.go+(a+4),none⟩) fl (r.wc-(a+4))]] W fun e w'=>e = .returned (.bool fb)/\Ext W w'):=hZ (fun W hW=>by
       have:=dFlat (v:=0) (FAT.out a HAT.out W hW) HFB.out;rw [HFL.out] at this;exact this)
      have q1:IntKind.i64.wrap (t-1)=t-1:=IntWalk.i64_in _ (by omega);clear he hE2 hnd fw6 hfb
      go_wp2_with (first
       | (go_at_call 133;refine (SMB.out _ EW1.out).mono ?_;rintro e w2 ⟨sv,rfl,hE2,hsv⟩;by_cases hva:sv=(a:Int);rotate_left;(focus (have u1b:(sv != (a:Int))=true:=(by simpa using hva);clear hva hsv;go_wp2_with fail;go_returns;exact ⟨false,rfl,EW1.out.trans hE2,fun e=>by cases e⟩));subst hva;have ONE:=hZ (hsv rfl);clear hsv)
       | (go_at_call 87;refine (NDB.out _ (EW1.out.trans hE2)).mono ?_;rintro e w3 ⟨rfl,hE3⟩;obtain ⟨k32,k3x,_⟩:=WD.out _ (EW1.out.trans (hE2.trans hE3)))
       | (go_at_call 135;refine (CKN.out _ (EW1.out.trans (hE2.trans hE3))).mono ?_;rintro e w4 ⟨cv,rfl,hE4,hcv⟩;by_cases hc0:cv=0;rotate_left;(focus (have v1b:(cv != 0)=true:=(by simpa using hc0);clear hc0 hcv;go_wp2_with fail;go_returns;exact ⟨false,rfl,EW1.out.trans (hE2.trans (hE3.trans hE4)),fun e=>by cases e⟩));subst hc0;have KIDS:=hZ (hcv rfl);clear hcv)
       | (go_at_call 136;refine (FLT.out _ (EW1.out.trans (hE2.trans (hE3.trans hE4)))).mono ?_;rintro e w5 ⟨rfl,hE5⟩;cases fb;rotate_left;(focus (go_wp2_with fail;go_returns;exact ⟨false,rfl,EW1.out.trans (hE2.trans (hE3.trans (hE4.trans hE5))),fun e=>by cases e⟩))))
      have E6:=hZ (EE1.out.trans (hE2.trans (hE3.trans (hE4.trans hE5))))
      have FITA:Hid (Hp.CellFit S a):=hZ
       { hold:=HOLD.out
         ends:=fun e=>by rw [HEE.out] at e;cases e
         kids:=KIDS.out
         flat:=fun _=>HFB.out
         one:=ONE.out }
      have FIT2:Hid (∀ (i a:Nat),i < j+1->S.taken[i]? = some a->Hp.CellFit S a):=hZ (fun i b hi hb=>by
       by_cases e:i=j
       . subst e;rw [HAJ.out] at hb
         cases hb
         exact FITA.out
       . exact FIT.out i b (by omega) hb)
      go_roundg (m-(j+1))
      case measure=>omega
      case rel=>exact ⟨j+1,by omega,Nat.le_refl _,by go_num,E6,FIT2⟩
   have tk:decide ((j:Int) < (m:Int))=false:=dF
   go_wp2_with fail
   clear tk hg zb zg EW;have F0:=E;obtain rfl:m=j:=by omega
   have ALL:=hZ (HW.out.cells_of (by rw [EM.out];exact FIT.out));clear E FIT hj hlt2
   go_loopg [9] m (fun g i wr=>∃ j:Nat,j<=m/\m-j<=g/\i = .int .i64 j/\Hid (Ext w1 wr)/\Hid (∀ (i a:Nat),i < j->S.taken[i]? = some a->Hp.ow S.words (a+1)=Hp.cnt (Hp.ow S.words) S.sizes a S.taken))
   case atStart=>exact ⟨0,Nat.zero_le _,by omega,rfl,F0,hZ (fun i a hi=>absurd hi (Nat.not_lt_zero _))⟩
   case round=>
    obtain ⟨j,hj,hg,rfl,E,USE⟩:=hrel;clear F0
    by_cases hlt2:j < m
    . obtain ⟨a,ha,haj,hrd⟩:=cellsI_rd (S:=S) (j:=j) (by rw [EM.out];exact hlt2);have tk:decide ((j:Int) < (m:Int))=true:=dT;have pa:=HW.out.part ha;rw [EN.out] at pa;have HAJ:=hZ haj;have HRD:=hZ hrd;have HAT:=hZ ha;have a5:a+5<=n:=by omega
      clear hrd haj ha pa
      go_wp2_with fail
      go_loopg [10,11] m (fun g s i wx=>∃ (k N:Nat),k<=m/\m-k<=g/\i = .int .i64 k/\s = .int .i64 N/\N<=200000/\Hid (N=Hp.cnt (Hp.ow S.words) S.sizes a (S.taken.take k))/\Hid (Ext w1 wx))
      case atStart=>exact ⟨0,0,Nat.zero_le _,by omega,rfl,rfl,by omega,hZ (by simp [Hp.cnt]),E⟩
      case round=>
       obtain ⟨k,N,hk,hg3,rfl,rfl,hN,HN,E3⟩:=hrel;have Ew:=E1.out.trans E3.out;have zb:r.rb < wr.heap.size:=Nat.lt_of_lt_of_le hlt Ew.le;have zg:r.gb < wr.heap.size:=Nat.lt_of_lt_of_le hbb Ew.le;have EW:=hZ Ew;clear Ew E
       by_cases hlt3:k < m
       . obtain ⟨b,hb,hbk,hrdb⟩:=cellsI_rd (S:=S) (j:=k) (by rw [EM.out];exact hlt3);obtain ⟨lb,lo',hlp,hlbb,hlc⟩:=(RR.out.ext E3.out).cells (by rw [cellsI_len,EM.out];omega);have gl:=hlc k _ hrdb;have LC:=hZ (fun W (hW:Ext wr W)=>(hW.cell hlbb (lo'+k)).trans gl);have LCJ:=hZ (fun W (hW:Ext wr W)=>(hW.cell hlbb (lo'+j)).trans (hlc j _ HRD.out));have tk3:decide ((k:Int) < (m:Int))=true:=dT;obtain ⟨fl,hfl⟩:∃ fl,(Hp.fz (Hp.ow S.words) S.sizes b).length=fl:=⟨_,rfl⟩
         have FLB:Hid (∀ W,Ext w W->Calls Tryz.prog 88 #[.pointer (some ⟨r.rb,0,none⟩),.int .i64 b] W fun e w'=>e = .returned (.slice (some ⟨r.gb,r.go+(b+4),none⟩) fl (r.wc-(b+4)))/\Ext W w'):=hZ (fun W hW=>by rw [<- hfl];exact FLD.out b hb W hW);have pb:=HW.out.part hb;have HFL:=hZ hfl;have HBT:=hZ hb;have hwl:fl<=12:=by rw [<- hfl,Hp.fz_length];omega
         have flr:fl<=r.wc-(b+4):=by rw [<- hfl,Hp.fz_length];rw [EN.out] at pb;omega
         have hN1:N<=100000:=by
          rw [HN.out];exact HW.out.cnt_le a k
         have HB2:=hZ (cnt_take_succ (f:=Hp.ow S.words) (z:=S.sizes) (a:=a) hbk);clear hrdb hlc hbk hb hfl pb;subst hlp
         cases he:Hp.isEnd (Hp.ow S.words b) with
         | true=>
          have hto:=HW.out.tags HBT.out;have tt:20<=Hp.ow S.words b:=by
           unfold Hp.isEnd Hp.within at he;simp only [Bool.and_eq_true,decide_eq_true_eq] at he;exact he.1
          have NDB:Hid (∀ W,Ext w W->Calls Tryz.prog 87 #[.pointer (some ⟨r.rb,0,none⟩),.int .i64 b] W fun e w'=>e = .returned (.bool false)/\Ext W w'):=hZ (fun W hW=>by
           have:=NODE.out b HBT.out W hW;rw [decide_eq_false (by omega:¬ Hp.ow S.words b < 20)] at this;exact this)
          have hk0:(Hp.kz (Hp.ow S.words) S.sizes b).count (a:Int)=0:=by
           unfold Hp.kz;rw [he];rfl
          have HN2:Hid (N=Hp.cnt (Hp.ow S.words) S.sizes a (S.taken.take (k+1))):=hZ (by rw [HB2.out,hk0,<- HN.out];rfl);have fl1:0 < fl:=by
           rw [<- HFL.out,Hp.fz_length];have:=HW.out.part HBT.out;omega
          have tf:decide ((0:Int) < (fl:Int))=true:=dT;have tf2:decide (0 < fl)=true:=dT;clear he hto tt hk0
          go_wp2_with (go_at_call 88;refine (FLB.out _ EW.out).mono ?_;rintro e w2 ⟨rfl,hE2⟩;have gl2:=LC.out _ hE2)
          go_loopg [10,13] 1 (fun g s i wx=>s = .int .i64 N/\i = .int .i64 0/\Hid (Ext wr wx))
          case atStart=>exact ⟨rfl,rfl,hZ hE2⟩
          case round=>
           obtain ⟨rfl,rfl,E5⟩:=hrel;have gl5:=LC.out _ E5.out
           go_wp2_with (go_at_call 87;refine (NDB.out _ (EW.out.trans E5.out)).mono ?_;rintro e w5 ⟨rfl,hE5⟩)
           have E6:=hZ (E3.out.trans (E5.out.trans hE5))
           go_roundg (m-(k+1))
           case measure=>omega
           case rel=>exact ⟨k+1,N,by omega,Nat.le_refl _,by go_num,rfl,by omega,HN2,E6⟩
         | false=>
          have hto:=HW.out.tags HBT.out;have hnd:=Hp.isNode_of hto he;have fw6:=HW.out.fr.few;simp only [Hp.isNode,Hp.within,Bool.and_eq_true,decide_eq_true_eq] at hnd;have NDB:Hid (∀ W,Ext w W->Calls Tryz.prog 87 #[.pointer (some ⟨r.rb,0,none⟩),.int .i64 b] W fun e w'=>e = .returned (.bool true)/\Ext W w'):=hZ (fun W hW=>by
           have:=NODE.out b HBT.out W hW;rw [decide_eq_true (by omega:Hp.ow S.words b < 20)] at this;exact this)
          have hkz:Hp.kz (Hp.ow S.words) S.sizes b=Hp.fz (Hp.ow S.words) S.sizes b:=by
           unfold Hp.kz;rw [he];rfl
          rw [hkz] at HB2;clear he hto hnd fw6 hkz
          go_wp2_with (go_at_call 88;refine (FLB.out _ EW.out).mono ?_;rintro e w2 ⟨rfl,hE2⟩;have gl2:=LC.out _ hE2)
          go_loopg [10,13] fl (fun g s i wx=>∃ (jj M:Nat),jj<=fl/\fl-jj<=g/\i = .int .i64 jj/\s = .int .i64 M/\M<=N+jj/\Hid (M=N+((Hp.fz (Hp.ow S.words) S.sizes b).take jj).count (a:Int))/\Hid (Ext wr wx))
          case atStart=>exact ⟨0,N,Nat.zero_le _,by omega,rfl,rfl,by omega,hZ (by simp),hZ hE2⟩
          case round=>
           obtain ⟨jj,M,hjj,hg5,rfl,rfl,hM,HM,E5⟩:=hrel;have gl5:=LC.out _ E5.out;have glj:=LCJ.out _ E5.out
           by_cases hlt5:jj < fl
           . have tf:decide ((jj:Int) < (fl:Int))=true:=dT;have tf2:decide (jj < fl)=true:=dT;obtain ⟨x,hx⟩:=rd_get (l:=Hp.fz (Hp.ow S.words) S.sizes b) (j:=jj) (by rw [HFL.out];exact hlt5);obtain ⟨fb,fo,hfp,hfb,hfc⟩:=(FAT.out b HBT.out _ (EW.out.trans E5.out)).cells (by rw [HFL.out];omega)
             cases hfp
             have gf:=hfc jj _ hx;have HCT:=hZ (count_take_succ (y:=(a:Int)) hx);clear hfc hx
             by_cases hxa:x=(a:Int)
             . have t0:(x == (a:Int))=true:=by simpa using hxa
               have HM2:Hid (M+1=N+((Hp.fz (Hp.ow S.words) S.sizes b).take (jj+1)).count (a:Int)):=hZ (by rw [HCT.out,if_pos hxa,HM.out];omega);clear hxa;go_upto_region 25 with (go_at_call 87;refine (NDB.out _ (EW.out.trans E5.out)).mono ?_;rintro e w5 ⟨rfl,hE5⟩;have gf5:=(hE5.cell hfb _).trans gf;have glj5:=LCJ.out _ (E5.out.trans hE5))
               have zl5:lb < w5.heap.size:=Nat.lt_of_lt_of_le hlbb (E5.out.trans hE5).le;have zf5:r.gb < w5.heap.size:=Nat.lt_of_lt_of_le hfb hE5.le;have pr66a:=fun u_ (h_:Ext w5 u_)=>(h_.cell zf5 (r.go+(b+4)+jj)).trans gf5
               have pr66b:=fun u_ (h_:Ext w5 u_)=>(h_.cell zl5 (lo'+j)).trans glj5
               refine wp_region_seq (S:=fun W=>Ext w5 W) (R:=Ext) (by kernel_rfl) Ext.refl ?_ ?_
               . exact exx
               refine' tkL 0 ?_;refine' tkL 1 ?_;refine' tkL 2 ?_;refine' tkL 3 ?_;refine' tkL 4 ?_;refine' tkL 5 ?_;refine' tkL 6 ?_;refine' tkL 7 ?_;refine' tkL 8 ?_;refine wpAnyR_done (by kernel_rfl) ?_ _;intro x6 _ Ex6;clear pr66a pr66b;have E6:=hZ (E5.out.trans (hE5.trans Ex6))
               go_wp2_with fail
               go_roundg (fl-(jj+1))
               case measure=>omega
               case rel=>exact ⟨jj+1,M+1,by omega,Nat.le_refl _,by go_num,by go_num,by omega,HM2,E6⟩
             have t0:(x == (a:Int))=false:=by simpa using hxa
             have HM2:Hid (M=N+((Hp.fz (Hp.ow S.words) S.sizes b).take (jj+1)).count (a:Int)):=hZ (by rw [HCT.out,if_neg hxa,HM.out];rfl);clear hxa;go_upto_region 25 with (go_at_call 87;refine (NDB.out _ (EW.out.trans E5.out)).mono ?_;rintro e w5 ⟨rfl,hE5⟩;have gf5:=(hE5.cell hfb _).trans gf;have glj5:=LCJ.out _ (E5.out.trans hE5))
             have zl5:lb < w5.heap.size:=Nat.lt_of_lt_of_le hlbb (E5.out.trans hE5).le;have zf5:r.gb < w5.heap.size:=Nat.lt_of_lt_of_le hfb hE5.le;have pr67a:=fun u_ (h_:Ext w5 u_)=>(h_.cell zf5 (r.go+(b+4)+jj)).trans gf5
             have pr67b:=fun u_ (h_:Ext w5 u_)=>(h_.cell zl5 (lo'+j)).trans glj5
             refine wp_region_seq (S:=fun W=>Ext w5 W) (R:=Ext) (by kernel_rfl) Ext.refl ?_ ?_
             . exact exx
             refine' tkL 0 ?_;refine' tkL 1 ?_;refine' tkL 2 ?_;refine' tkL 3 ?_;refine' tkL 4 ?_;refine' tkL 5 ?_;refine' tkL 6 ?_;refine' tkL 7 ?_;refine' tkL 8 ?_;refine wpAnyR_done (by kernel_rfl) ?_ _;intro x6 _ Ex6;clear pr67a pr67b;have E6:=hZ (E5.out.trans (hE5.trans Ex6))
             go_wp2_with fail
             go_roundg (fl-(jj+1))
             case measure=>omega
             case rel=>exact ⟨jj+1,M,by omega,Nat.le_refl _,by go_num,rfl,by omega,HM2,E6⟩
           have:jj=fl:=by omega
           subst this;have tf:decide ((jj:Int) < (jj:Int))=false:=dF;have tf2:decide (jj < jj)=false:=dF
           have HN2:Hid (M=Hp.cnt (Hp.ow S.words) S.sizes a (S.taken.take (k+1))):=hZ (by
            have h1:=HM.out;rw [List.take_of_length_le (by rw [HFL.out];exact Nat.le_refl _)] at h1;rw [HB2.out,h1,HN.out])
           have E6:=hZ (E3.out.trans E5.out)
           go_wp2_with fail
           go_roundg (m-(k+1))
           case measure=>omega
           case rel=>exact ⟨k+1,M,by omega,Nat.le_refl _,by go_num,rfl,by omega,HN2,E6⟩
       have:k=m:=by omega
       subst this;have tk3:decide ((k:Int) < (k:Int))=false:=dF;have hNc:N=Hp.cnt (Hp.ow S.words) S.sizes a S.taken:=by
        have h1:=HN.out;rw [<- EM.out,List.take_length] at h1;exact h1
       have gu:=(H.out.ext EW.out).get (j:=a+1) (by rw [EN.out];omega);obtain ⟨uv,huv⟩:∃ uv,Hp.ow S.words (a+1)=uv:=⟨_,rfl⟩
       rw [huv] at gu;have HUV:=hZ huv;have HNC:=hZ hNc;obtain ⟨lb,lo',hlp,hlbb,hlc⟩:=(RR.out.ext E3.out).cells (by rw [cellsI_len,EM.out];omega);have glj:=hlc j _ HRD.out;have c2w:=(EW.out.cell hlt 2).trans c2;have s1:IntKind.i64.wrap ((a:Int)+1)=(a:Int)+1:=IntWalk.i64_in _ (by omega);have s2:(0:Int)<=(a:Int)+1:=by omega
       have s3:(a:Int)+1 < (n:Int):=by omega
       have s4:((a:Int)+1).toNat=a+1:=by omega
       have jm:(j:Int) < (k:Int):=by omega
       clear huv hNc hlc;subst hlp
       by_cases hun:uv=(N:Int)
       . have USE2:Hid (∀ (i a:Nat),i < j+1->S.taken[i]? = some a->Hp.ow S.words (a+1)=Hp.cnt (Hp.ow S.words) S.sizes a S.taken):=hZ (fun i b hi hb=>by
           by_cases e:i=j
           . subst e;rw [HAJ.out] at hb
             cases hb
             rw [HUV.out,hun,HNC.out]
           . exact USE.out i b (by omega) hb)
         subst hun;have u1:((N:Int) != (N:Int))=false:=by simp
         go_upto_region 27 with (fail)
         have pr68a:=fun u_ (h_:Ext wr u_)=>(h_.cell zb 2).trans c2w
         have pr68b:=fun u_ (h_:Ext wr u_)=>(h_.cell zg (r.go+(a+1))).trans gu
         have pr68c:=fun u_ (h_:Ext wr u_)=>(h_.cell hlbb (lo'+j)).trans glj
         refine wp_region_seq (S:=fun W=>Ext wr W) (R:=Ext) (by kernel_rfl) Ext.refl ?_ ?_
         . exact exx
         refine' tkL 0 ?_;refine' tkL 1 ?_;refine' tkL 2 ?_;refine' tkL 3 ?_;refine' tkL 4 ?_;refine' tkL 5 ?_;refine' tkL 6 ?_;refine' tkL 7 ?_;refine' tkL 8 ?_;refine' tkL 9 ?_;refine' tkL 10 ?_;refine' tkL 11 ?_;refine' tkL 12 ?_;refine wpAnyR_done (by kernel_rfl) ?_ _;intro x6 _ Ex6;clear pr68a pr68b pr68c;have E6:=hZ (E3.out.trans Ex6)
         go_wp2_with fail
         go_roundg (k-(j+1))
         case measure=>omega
         case rel=>exact ⟨j+1,by omega,Nat.le_refl _,by go_num,E6,USE2⟩
       have u1:(uv != (N:Int))=true:=by simpa using hun
       clear hun;go_upto_region 27 with (fail)
       have pr69a:=fun u_ (h_:Ext wr u_)=>(h_.cell zb 2).trans c2w
       have pr69b:=fun u_ (h_:Ext wr u_)=>(h_.cell zg (r.go+(a+1))).trans gu
       have pr69c:=fun u_ (h_:Ext wr u_)=>(h_.cell hlbb (lo'+j)).trans glj
       refine wp_region_seq (S:=fun W=>Ext wr W) (R:=Ext) (by kernel_rfl) Ext.refl ?_ ?_
       . exact exx
       refine' tkL 0 ?_;refine' tkL 1 ?_;refine' tkL 2 ?_;refine' tkL 3 ?_;refine' tkL 4 ?_;refine' tkL 5 ?_;refine' tkL 6 ?_;refine' tkL 7 ?_;refine' tkL 8 ?_;refine' tkL 9 ?_;refine' tkL 10 ?_;refine' tkL 11 ?_;refine' tkL 12 ?_;refine wpAnyR_done (by kernel_rfl) ?_ _;intro x6 _ Ex6;clear pr69a pr69b pr69c
       go_wp2_with fail
       go_returns;exact ⟨false,rfl,EW.out.trans Ex6,fun e=>by cases e⟩
    have tk:decide ((j:Int) < (m:Int))=false:=dF
    go_wp2_with fail
    go_returns;exact ⟨true,rfl,E1.out.trans E.out,fun _=>⟨ALL.out.1,ALL.out.2,fun a ha=>by
     obtain ⟨i,hi⟩:=List.mem_iff_getElem?.1 ha;exact USE.out i a (by have:=(List.getElem?_eq_some_iff.1 hi).1;rw [EM.out] at this;omega) hi⟩⟩
set_option maxHeartbeats 2000000 in
theorem rFields_none (h:RAt w r S) (hz:Hp.Fr S.sizes) (ht:Hp.okTag S.sizes t=false) :
    Calls Tryz.prog 68 #[.pointer (some ⟨r.rb,0,none⟩),.int .i64 t] w fun e w'=>e = .returned (.int .i64 (-1))/\Ext w w':=by
  have h0:=h.c0;have few:=hz.few;have hle:=h.sizes.le;have hcap:=h.sizes.cap;have hr:(t < 1 \/ (S.sizes.length:Int) < t)/\(t < 20 \/ 24 < t):=by
   simp only [Hp.okTag,Hp.isNode,Hp.isEnd,Hp.within,Bool.or_eq_false_iff,Bool.and_eq_false_iff,decide_eq_false_iff_not] at ht;omega
  clear h hz ht;generalize S.sizes.length=n at *
  by_cases c1:t ≥ 1
  . have t1:decide (t<=(n:Int))=false:=dF;have t2:decide (t ≥ 1)=true:=dT
    by_cases c2:t ≥ 20
    . have t3:decide (t ≥ 20)=true:=dT;have t4:decide (t<=24)=false:=dF;clear hr c1 c2;go_enter Tryz.func68,Tryz.ntmps68
      go_wp2_with fail
      go_returns;exact ⟨rfl,exx⟩
    have t3:decide (t ≥ 20)=false:=dF;clear hr c1 c2;go_enter Tryz.func68,Tryz.ntmps68
    go_wp2_with fail
    go_returns;exact ⟨rfl,exx⟩
  have t2:decide (t ≥ 1)=false:=dF;have t3:decide (t ≥ 20)=false:=dF;clear hr c1;go_enter Tryz.func68,Tryz.ntmps68
  go_wp2_with fail
  go_returns;exact ⟨rfl,exx⟩
set_option maxRecDepth 100000 in
set_option maxHeartbeats 8000000 in
theorem rCheck_any {go wc:Nat} (hs:SliceAt w sp sc S.sizes) (ho:SliceAt w op oc S.order) (hw':SliceAt w (some ⟨gb,go,none⟩) wc S.words) (hf:Hp.FrOk S.sizes S.order) (lo:20<=S.words.length) (hi:S.words.length<=100000) :
    Calls Tryz.prog 19 #[.slice sp S.sizes.length sc,.slice op S.order.length oc,.slice (some ⟨gb,go,none⟩) S.words.length wc] w fun e w'=>∃ b,e = .returned (.bool b)/\Ext w w'/\(b=true -> ∃ L ch,Hp.Wf { S with taken:=Hp.adsOf L } 9223372036854775807 L ch):=by
  have M:=rMade hs ho hw' 54;have E0:Ext w (w.alloc (.cells #[.slice sp S.sizes.length sc,.slice op S.order.length oc,.slice (some ⟨gb,go,none⟩) S.words.length wc] 54)):=Ext.alloc (Ext.refl _) _;have WFW:=hZ hw'.wf;have HF:=hZ hf;have LO:=hZ lo;have HI:=hZ hi;have hle:=hw'.le;have hcap:=hw'.cap;go_enter Tryz.func19,Tryz.ntmps19
  go_wp2_with fail
  have ME:=hZ M;have EE0:=hZ E0;clear M E0 hs ho hw' hf;generalize w.alloc (.cells #[.slice sp S.sizes.length sc,.slice op S.order.length oc,.slice (some ⟨gb,go,none⟩) S.words.length wc] 54)=w0 at *;generalize hr:(⟨w.heap.size,sp,sc,op,oc,gb,go,wc⟩:Rd)=r at ME;have hrb:w.heap.size=r.rb:=by rw [<- hr]
  have hgb:gb=r.gb:=by rw [<- hr]
  have hgo:go=r.go:=by rw [<- hr]
  have hwc:wc=r.wc:=by rw [<- hr]
  rw [hrb,hgb,hgo,hwc];rw [hwc] at hle hcap;clear hrb hgb hgo hwc hr;obtain ⟨n,hn⟩:∃ n,S.words.length=n:=⟨_,rfl⟩
  have EN:=hZ hn;rw [hn] at lo hi hle ⊢;clear hn
  go_loopg [8] n (fun g i wr=>∃ (D:List Hp.Tl) (a:Nat),a<=n/\n-a<=g/\i = .int .i64 a/\Hid (Hp.Lay 17 D a)/\Hid (∀ t ∈ D,Hp.TileOk (Hp.ow S.words) S.sizes t)/\Hid (Ext w0 wr))
  case atStart=>exact ⟨[],17,by omega,by omega,rfl,hZ rfl,hZ (fun t ht=>by cases ht),hZ (Ext.refl _)⟩
  case round=>
   obtain ⟨D,a,ha,hg,rfl,LD,OK,E⟩:=hrel;have N:=hZ (ME.out.ext E.out)
   by_cases hlt:a < n
   . have gx:=N.out.get (j:=a) (by rw [EN.out];omega);have tk:decide ((a:Int) < (n:Int))=true:=dT;have STEP:∀ (t:Hp.Tl),t.a=a->3<=t.k->Hp.TileOk (Hp.ow S.words) S.sizes t->Hid (Hp.Lay 17 (D ++ [t]) (a+t.k))/\Hid (∀ u ∈ D ++ [t],Hp.TileOk (Hp.ow S.words) S.sizes u):=fun t e hk ht=>
      ⟨hZ (Hp.Lay.app.2 ⟨a,LD.out,e,hk,rfl⟩),hZ (fun u hu=>by
       rcases List.mem_append.1 hu with hu | hu
       . exact OK.out u hu
       . rw [List.mem_singleton.1 hu];exact ht)⟩
     obtain ⟨x,hx⟩:∃ x,Hp.ow S.words a=x:=⟨_,rfl⟩
     have HX:=hZ hx;rw [hx] at gx;clear hx
     by_cases h0:x=0
     . subst h0
       by_cases h3:n < a+3
       . have u1:decide ((a:Int)+3 > (n:Int))=true:=dT;have u4:decide ((n:Int) < (a:Int)+3)=true:=dT;clear STEP
         go_wp2_with fail
         go_returns;exact ⟨false,rfl,EE0.out.trans E.out,fun e=>by cases e⟩
       have u1:decide ((a:Int)+3 > (n:Int))=false:=dF;have u4:decide ((n:Int) < (a:Int)+3)=false:=dF;have gy:=N.out.get (j:=a+1) (by rw [EN.out];omega);obtain ⟨y,hy⟩:∃ y,Hp.ow S.words (a+1)=y:=⟨_,rfl⟩
       have HY:=hZ hy;rw [hy] at gy;clear hy
       by_cases h5:y < 3
       . have u2:decide (y < 3)=true:=decide_eq_true h5;clear STEP h5
         go_wp2_with fail
         go_returns;exact ⟨false,rfl,EE0.out.trans E.out,fun e=>by cases e⟩
       have u2:decide (y < 3)=false:=decide_eq_false h5
       by_cases h6:y > (n:Int)-(a:Int)
       . have u3:decide (y > (n:Int)-(a:Int))=true:=decide_eq_true h6;have u5:decide ((n:Int)-(a:Int) < y)=true:=decide_eq_true h6;clear STEP h5 h6
         go_wp2_with fail
         go_returns;exact ⟨false,rfl,EE0.out.trans E.out,fun e=>by cases e⟩
       have u3:decide (y > (n:Int)-(a:Int))=false:=decide_eq_false h6;have u5:decide ((n:Int)-(a:Int) < y)=false:=decide_eq_false h6;obtain ⟨k,rfl⟩:∃ k:Nat,y=(k:Int):=⟨y.toNat,by omega⟩
       have LONG:=hZ (fun W (hW:Ext w0 W)=>rLong_free (ME.out.ext hW) (a:=a) (k:=k) (by rw [EN.out];omega) HX.out HY.out)
       obtain ⟨ST1,ST2⟩:=STEP ⟨a,k,true⟩ rfl (by show 3<=k;omega) (by
        unfold Hp.TileOk;simp only [if_true];exact ⟨HX.out,HY.out⟩)
       have u6:decide (k < 3)=false:=dF;have hk3:3<=k:=by omega
       have hkn:a+k<=n:=by omega
       clear STEP h5 h6 h3
       go_wp2_with (go_at_call 67;refine (LONG.out _ E.out).mono ?_;rintro e w1 ⟨rfl,hb1⟩;obtain ⟨hc1,hf1,hs1⟩:=hb1.cells)
       go_roundg (n-(a+k))
       case measure=>omega
       case rel=>exact ⟨_,a+k,by omega,Nat.le_refl _,by go_num,ST1,ST2,hZ (E.out.trans hb1)⟩
     have t0:(x == 0)=false:=by simpa using h0
     cases hok:Hp.okTag S.sizes x with
     | false=>
      have FL2:=hZ (fun W (hW:Ext w0 W)=>rFields_none (ME.out.ext hW) HF.out.toFr hok);clear STEP hok h0
      go_wp2_with (go_at_call 68;refine (FL2.out _ E.out).mono ?_;rintro e w2 ⟨rfl,hE2⟩)
      go_returns;exact ⟨false,rfl,EE0.out.trans (E.out.trans hE2),fun e=>by cases e⟩
     | true=>
      have hwz:=Hp.wz_ok HF.out.toFr hok;have FLDS:=hZ (fun W (hW:Ext w0 W)=>rFields (ME.out.ext hW) HF.out.toFr hok);have LONG:=hZ (fun W (hW:Ext w0 W)=>rLong_cell (ME.out.ext hW) HF.out.toFr (a:=a) (by rw [EN.out];omega) (HX.out.symm ▸ hok));rw [HX.out] at LONG;obtain ⟨kk,hkk⟩:∃ kk,Hp.wz S.sizes x=kk:=⟨_,rfl⟩
      have HKK:=hZ hkk;rw [hkk] at LONG FLDS hwz;obtain ⟨k,hk⟩:∃ k,kk-4=k:=⟨_,rfl⟩
      rw [hk] at FLDS;have hk4:kk=k+4:=by omega
      have GX:=hZ (fun W (hW:Ext w0 W)=>by have:=(ME.out.ext hW).get (j:=a) (by rw [EN.out];omega);rw [HX.out] at this;exact this);have u1:decide ((k:Int) < 0)=false:=dF;have k16:k<=100000:=by omega
      have a16:a<=100000:=by omega
      by_cases h6:n < a+kk
      . have u2:decide ((a:Int)+4+(k:Int) > (n:Int))=true:=dT;have u3:decide ((n:Int) < (a:Int)+4+(k:Int))=true:=dT;clear STEP hok h0 hwz h6 hkk hk
        go_wp2_with (first
         | (go_at_call 68;refine (FLDS.out _ E.out).mono ?_;rintro e w2 ⟨rfl,hE2⟩;have gx2:=GX.out _ (E.out.trans hE2))
         | (go_at_call 68;refine (FLDS.out _ (E.out.trans hE2)).mono ?_;rintro e w3 ⟨rfl,hE3⟩;have F3:Ext w0 w3:=E.out.trans (hE2.trans hE3)))
        go_returns;exact ⟨false,rfl,EE0.out.trans F3,fun e=>by cases e⟩
      have u2:decide ((a:Int)+4+(k:Int) > (n:Int))=false:=dF;have u3:decide ((n:Int) < (a:Int)+4+(k:Int))=false:=dF
      obtain ⟨ST1,ST2⟩:=STEP ⟨a,kk,false⟩ rfl (by show 3<=kk;omega) (by
       unfold Hp.TileOk;simp only [Bool.false_eq_true,if_false];exact ⟨HX.out.symm ▸ hok,by rw [HX.out,HKK.out]⟩)
      clear STEP hok h0 hwz hkk hk
      go_wp2_with (first
       | (go_at_call 67;refine (LONG.out _ (by assumption)).mono ?_;rintro e w5 ⟨rfl,hE5⟩)
       | (go_at_call 68;refine (FLDS.out _ E.out).mono ?_;rintro e w2 ⟨rfl,hE2⟩;have gx2:=GX.out _ (E.out.trans hE2))
       | (go_at_call 68;refine (FLDS.out _ (E.out.trans hE2)).mono ?_;rintro e w3 ⟨rfl,hE3⟩;have F3:Ext w0 w3:=E.out.trans (hE2.trans hE3)))
      go_roundg (n-(a+kk))
      case measure=>omega
      case rel=>exact ⟨_,a+kk,by omega,Nat.le_refl _,by go_num,ST1,ST2,hZ (F3.trans hE5)⟩
   obtain rfl:a=n:=by omega
   have tk:decide ((a:Int) < (a:Int))=false:=dF;have TW:Hid (Hp.Tw { S with taken:=Hp.adsOf D } D):=hZ ⟨HF.out,LO.out,HI.out,⟨by show Hp.Lay 17 D S.words.length;rw [EN.out];exact LD.out,OK.out⟩,rfl⟩;have MT:Hid (RAt w0 r { S with taken:=Hp.adsOf D }):=hZ ⟨ME.out.c0,ME.out.c1,ME.out.c2,ME.out.sizes,ME.out.order,ME.out.words⟩;have CF:=hZ (fun W (hW:Ext w0 W)=>rCheckFree_t (MT.out.ext hW) TW.out);have CC:=hZ (fun W (hW:Ext w0 W)=>rCheckCells_t (MT.out.ext hW) TW.out);have CH:=hZ (fun hc W (hW:Ext w0 W)=>rCheckChains_t (MT.out.ext hW) TW.out hc);have EEE:=hZ (EE0.out.trans E.out);clear hlt hg ha
   go_wp2_with (first
    | (go_at_call 69;refine (CF.out _ E.out).mono ?_;rintro e w2 ⟨b1,rfl,hE2,hb1⟩;cases b1;(focus (clear hb1;go_wp2_with fail;go_returns;exact ⟨false,rfl,EEE.out.trans hE2,fun e=>by cases e⟩));have FA:=hZ (hb1 (by first | rfl | trivial));clear hb1)
    | (go_at_call 70;refine (CC.out _ (E.out.trans hE2)).mono ?_;rintro e w3 ⟨b2,rfl,hE3,hb2⟩;cases b2;(focus (clear hb2;go_wp2_with fail;go_returns;exact ⟨false,rfl,EEE.out.trans (hE2.trans hE3),fun e=>by cases e⟩));have CA:=hZ (hb2 (by first | rfl | trivial));clear hb2)
    | (go_at_call 71;refine (CH.out CA.out.1 _ (E.out.trans (hE2.trans hE3))).mono ?_;rintro e w4 ⟨b3,rfl,hE4,hb3⟩))
   go_returns;refine ⟨_,rfl,EEE.out.trans (hE2.trans (hE3.trans hE4)),fun e=>?_⟩;obtain ⟨ch,c1,c2⟩:=hb3 e;exact ⟨D,ch,TW.out.wf FA.out.1 FA.out.2.1 FA.out.2.2 CA.out.1 CA.out.2.2 CA.out.2.1 (fun x hx=>(WFW.out x hx).2) c1 c2⟩
theorem Hp.thin_lens {n:Int} (h:Hp.thinB z o n acts=true):z.length<=8/\o.length<=8:=by
 simp only [Hp.thinB,Hp.slimB,Bool.and_eq_true,decide_eq_true_eq] at h
 exact ⟨h.1.1,h.1.2.1⟩
def LoadIs (w:World) (z o W:List Int) (R:World->Ending->World->Prop):Prop:=∀ (w1:World) (p1 p2 p3:Option Addr) (c1 c2 c3:Nat),Ext w w1->SliceAt w1 p1 c1 z->(0 < z.length \/ p1=none)->SliceAt w1 p2 c2 o->(0 < o.length \/ p2=none)->SliceAt w1 p3 c3 W->(0 < W.length \/ p3=none) ->
 Calls Tryz.prog 16 #[.slice p1 z.length c1,.slice p2 o.length c2,.slice p3 W.length c3] w1 (R w1)
set_option maxRecDepth 100000 in
set_option maxHeartbeats 16000000 in
theorem loads_bad {pa pw:Option Addr} {ca cw:Nat} {n fe e0:Int} (h:SAt w sp sc op oc pa ca z o acts) (hW:SliceAt w pw cw W) (hWn:pw=none->cw=0) (ht:Hp.thinB z o n acts=true) (hl:W.length<=400) (hfe:Hp.newErr z o W.length=fe) (he0:e0 ≠ 0)
    (hL:LoadIs w z o W fun w1 e w'=>e = .returned (.tuple #[.pointer none,.int .i64 e0])/\Ext w1 w') (hc:(fe ≠ 0/\e0=fe) \/ (fe=0/\e0=4 /\ ∀ w1,Ext w w1->Calls Tryz.prog 19 #[.slice sp z.length sc,.slice op o.length oc,.slice pw W.length cw] w1 fun e w'=>e = .returned (.bool false)/\Ext w1 w')) :
    Calls Tryz.prog 3 #[.agg #[.slice sp z.length sc,.slice op o.length oc,.int .i64 n,.slice pa acts.length ca],.slice pw W.length cw,.int .i64 x] w fun e w'=>e = .returned (.bool true)/\Ext w w':=by
  have E0:Ext w (w.alloc (.cells #[.slice sp z.length sc,.slice op o.length oc,.int .i64 n,.slice pa acts.length ca] 25)):=Ext.alloc (Ext.refl _) _;have TH:=hZ (lThin (n:=n) (h.ext E0));rw [ht] at TH;have H:=hZ h;have HW:=hZ hW;have HWN:=hZ hWn;have HL:=hZ hL;have HC:=hZ hc;have HFE:=hZ hfe;have HE0:=hZ E0;obtain ⟨zl,ol⟩:=Hp.thin_lens ht;have BX:=hZ (show ((w.alloc (.cells #[.slice sp z.length sc,.slice op o.length oc,.int .i64 n,.slice pa acts.length ca] 25)).cell? ⟨w.heap.size,0,none⟩=some (.slice sp z.length sc)/\(w.alloc (.cells #[.slice sp z.length sc,.slice op o.length oc,.int .i64 n,.slice pa acts.length ca] 25)).cell? ⟨w.heap.size,1,none⟩=some (.slice op o.length oc))/\(w.alloc (.cells #[.slice sp z.length sc,.slice op o.length oc,.int .i64 n,.slice pa acts.length ca] 25)).cell? ⟨w.heap.size,2,none⟩=some (.int .i64 n)/\(w.alloc (.cells #[.slice sp z.length sc,.slice op o.length oc,.int .i64 n,.slice pa acts.length ca] 25)).cell? ⟨w.heap.size,3,none⟩=some (.slice pa acts.length ca) from ⟨⟨by go_simp,by go_simp⟩,by go_simp,by go_simp⟩);have q0:decide ((W.length:Int) > 400)=false:=dF;have q1:decide (400 < (W.length:Int))=false:=dF;have q2:decide (400 < W.length)=false:=dF;clear h hW hWn ht hfe hL hc E0;have mixed:Tryz.prog.follows .mixedOrders=true:=by kernel_rfl
  go_enter Tryz.func3,Tryz.ntmps3
  go_wp2_with fail
  generalize (w.alloc (.cells #[.slice sp z.length sc,.slice op o.length oc,.int .i64 n,.slice pa acts.length ca] 25))=w0 at HE0 BX TH ⊢;generalize w.heap.size=gb at BX ⊢;obtain ⟨⟨c0,c1⟩,c2,c3⟩:=BX.out;have z0:=cell_lt c0;go_upto_region 3 with (go_at_call 14;refine TH.out.mono ?_;rintro e w1 ⟨rfl,hE1⟩)
  have b0:=(hE1.cell z0 0).trans c0;have b1:=(hE1.cell z0 1).trans c1;have B1:=hZ (And.intro b0 b1);have HE1:=hZ (HE0.out.trans hE1);clear c0 c1 c2 c3 z0 BX HE0 TH hE1 b0 b1;refine wp_region_seq (S:=fun W=>Ext w1 W) (R:=Eq) (by kernel_rfl) (fun _=>rfl) (Ext.drew (Ext.refl w1)) ?_;have E2:=hZ (show Ext w1 w1.drew from Ext.drew (Ext.refl w1));generalize w1.drew=w2 at *;refine' wpAnyR_take (i:=0) (v:=?v0_1623) (fun _=>rfl) (fun _ _ _ h k=>h.trans k) rfl (by kernel_rfl) (by kernel_rfl) (by kernel_rfl) (fun _ _ _ h=>h) (Or.inl (Or.inl ⟨by rfl, ?hy0_1623⟩)) ?rest0_1623
  case hy0_1623=>(intro w hSw;(obtain ⟨b0,b1⟩:=B1.out;have k0:=(hSw.cell (cell_lt b0) 0).trans b0;have k1:=(hSw.cell (cell_lt b1) 1).trans b1);go_simp;try with_reducible rfl)
  refine layy ?_;refine' wpAnyR_take (i:=1) (v:=?v1_1624) (fun _=>rfl) (fun _ _ _ h k=>h.trans k) rfl (by kernel_rfl) (by kernel_rfl) (by kernel_rfl) (fun _ _ _ h=>h) (Or.inl (Or.inl ⟨by rfl, ?hy1_1624⟩)) ?rest1_1624
  case hy1_1624=>(intro w hSw;(obtain ⟨b0,b1⟩:=B1.out;have k0:=(hSw.cell (cell_lt b0) 0).trans b0;have k1:=(hSw.cell (cell_lt b1) 1).trans b1);go_simp;try with_reducible rfl)
  refine layy ?_;refine' wpAnyR_take (i:=3) (v:=?v3_1625) (fun _=>rfl) (fun _ _ _ h k=>h.trans k) rfl (by kernel_rfl) (by kernel_rfl) (by kernel_rfl) (fun _ _ _ h=>h) (Or.inl (Or.inl ⟨by rfl, ?hy3_1625⟩)) ?rest3_1625
  case hy3_1625=>(intro w hSw;(obtain ⟨b0,b1⟩:=B1.out;have k0:=(hSw.cell (cell_lt b0) 0).trans b0;have k1:=(hSw.cell (cell_lt b1) 1).trans b1);go_simp;try with_reducible rfl)
  refine layy ?_;refine' wpAnyR_take (i:=4) (v:=?v4_1626) (fun _=>rfl) (fun _ _ _ h k=>h.trans k) rfl (by kernel_rfl) (by kernel_rfl) (by kernel_rfl) (fun _ _ _ h=>h) (Or.inl (Or.inl ⟨by rfl, ?hy4_1626⟩)) ?rest4_1626
  case hy4_1626=>(intro w hSw;(obtain ⟨b0,b1⟩:=B1.out;have k0:=(hSw.cell (cell_lt b0) 0).trans b0;have k1:=(hSw.cell (cell_lt b1) 1).trans b1);go_simp;try with_reducible rfl)
  refine layy ?_;refine' wpAnyR_take (i:=6) (v:=?v6_1627) (fun _=>rfl) (fun _ _ _ h k=>h.trans k) rfl (by kernel_rfl) (by kernel_rfl) (by kernel_rfl) (fun _ _ _ h=>h) (Or.inl (Or.inl ⟨by rfl, ?hy6_1627⟩)) ?rest6_1627
  case hy6_1627=>(intro w hSw;(obtain ⟨b0,b1⟩:=B1.out;have k0:=(hSw.cell (cell_lt b0) 0).trans b0;have k1:=(hSw.cell (cell_lt b1) 1).trans b1);go_simp;try with_reducible rfl)
  refine layy ?_;refine wpAnyE_call 2 (f:=17) (args:=#[.slice sp z.length sc]) rfl (by kernel_rfl) (by rfl) ?run2 ?call2
  case run2=>go_simp
  refine (ints_any ((H.out.sizes.ext HE1.out).ext E2.out) H.out.n1 (by omega)).mono ?_;rintro e w3 ⟨p1,k1,rfl,R1,hE3,hk1⟩;have E3:=hZ (E2.out.trans hE3);have S1:=hZ (And.intro R1.at_ hk1);refine ⟨_,rfl,E3.out, ?_⟩;refine layy ?_;refine wpAnyE_call 5 (f:=17) (args:=#[.slice op o.length oc]) rfl (by kernel_rfl) (by rfl) ?run5 ?call5
  case run5=>go_simp
  refine (ints_any ((H.out.order.ext HE1.out).ext E3.out) H.out.n2 (by omega)).mono ?_;rintro e w4 ⟨p2,k2,rfl,R2,hE4,hk2⟩;have E4:=hZ (E3.out.trans hE4);have S2:=hZ (And.intro R2.at_ hk2);have S14:=hZ (S1.out.1.ext hE4);refine ⟨_,rfl,E4.out, ?_⟩;refine layy ?_;refine wpAnyE_call 7 (f:=17) (args:=#[.slice pw W.length cw]) rfl (by kernel_rfl) (by rfl) ?run7 ?call7
  case run7=>go_simp
  refine (ints_any ((HW.out.ext HE1.out).ext E4.out) HWN.out (by omega)).mono ?_;rintro e w5 ⟨p3,k3,rfl,R3,hE5,hk3⟩;have E5:=hZ (E4.out.trans hE5);have S3:=hZ (And.intro R3.at_ hk3);have S15:=hZ (S14.out.ext hE5);have S25:=hZ (S2.out.1.ext hE5);refine ⟨_,rfl,E5.out, ?_⟩;refine layy ?_;refine wpAnyE_call 8 (f:=16) (args:=#[.slice p1 z.length k1,.slice p2 o.length k2,.slice p3 W.length k3]) rfl (by kernel_rfl) (by rfl) ?run8 ?call8
  case run8=>go_simp
  refine (HL.out w5 p1 p2 p3 k1 k2 k3 (HE1.out.trans E5.out) S15.out S1.out.2 S25.out S2.out.2 S3.out.1 S3.out.2).mono ?_;rintro e w6 ⟨rfl,hE6⟩;have E6:=hZ (E5.out.trans hE6);refine ⟨_,rfl,E6.out, ?_⟩;refine layy ?_;refine' wpAnyR_take (i:=9) (v:=?v9_1628) (fun _=>rfl) (fun _ _ _ h k=>h.trans k) rfl (by kernel_rfl) (by kernel_rfl) (by kernel_rfl) (fun _ _ _ h=>h) (Or.inl (Or.inl ⟨by rfl, ?hy9_1628⟩)) ?rest9_1628
  case hy9_1628=>(intro w _;go_simp;try with_reducible rfl)
  refine layy ?_;refine' wpAnyR_take (i:=10) (v:=?v10_1629) (fun _=>rfl) (fun _ _ _ h k=>h.trans k) rfl (by kernel_rfl) (by kernel_rfl) (by kernel_rfl) (fun _ _ _ h=>h) (Or.inl (Or.inl ⟨by rfl, ?hy10_1629⟩)) ?rest10_1629
  case hy10_1629=>(intro w _;go_simp;try with_reducible rfl)
  refine layy ?_;refine' wpAnyR_take (i:=11) (v:=?v11_1630) (fun _=>rfl) (fun _ _ _ h k=>h.trans k) rfl (by kernel_rfl) (by kernel_rfl) (by kernel_rfl) (fun _ _ _ h=>h) (Or.inl (Or.inl ⟨by rfl, ?hy11_1630⟩)) ?rest11_1630
  case hy11_1630=>(intro w _;go_simp;try with_reducible rfl)
  refine layy ?_;refine' wpAnyR_take (i:=12) (v:=?v12_1631) (fun _=>rfl) (fun _ _ _ h k=>h.trans k) rfl (by kernel_rfl) (by kernel_rfl) (by kernel_rfl) (fun _ _ _ h=>h) (Or.inl (Or.inl ⟨by rfl, ?hy12_1631⟩)) ?rest12_1631
  case hy12_1631=>(intro w _;go_simp;try with_reducible rfl)
  refine layy ?_;refine' wpAnyR_take (i:=13) (v:=?v13_1632) (fun _=>rfl) (fun _ _ _ h k=>h.trans k) rfl (by kernel_rfl) (by kernel_rfl) (by kernel_rfl) (fun _ _ _ h=>h) (Or.inl (Or.inl ⟨by rfl, ?hy13_1632⟩)) ?rest13_1632
  case hy13_1632=>(intro w _;go_simp;try with_reducible rfl)
  refine layy ?_;refine wpAnyR_done (by kernel_rfl) ?_ _;intro w6' e6 _;subst e6;obtain ⟨b0,b1⟩:=B1.out;have k0:=(E6.out.cell (cell_lt b0) 0).trans b0;have k1':=(E6.out.cell (cell_lt b1) 1).trans b1;have EW:=hZ (HE1.out.trans E6.out);have FT:=hZ (lFault (n:=(W.length:Int)) (H.out.sizes.ext EW.out) (H.out.order.ext EW.out));rw [HFE.out] at FT;clear b0 b1 E3 E4 E5 S1 S2 S3 S14 S15 S25 R1 R2 R3 hE3 hE4 hE5 hE6
  rcases HC.out with ⟨hf,he⟩ | ⟨hf,he,hck⟩
  . subst he;have t0:(e0 == 0)=false:=by simpa using hf
    have t1:(e0 != 0)=true:=by simpa using hf
    have t2:(e0 == e0)=true:=by simp
    clear hf
    go_wp2_with (first
     | (go_at_call 18;refine FT.out.mono ?_;rintro e w7 ⟨rfl,hE7⟩)
     | (go_at_call 20;refine (Words_nil _).mono ?_;rintro e w8 ⟨rfl,hE8⟩)
     | (go_at_call 15;refine (awake_any _).mono ?_;rintro e w9 ⟨rfl,hE9⟩))
    go_returns;exact ⟨rfl,EW.out.trans (hE7.trans (hE8.trans hE9))⟩
  subst hf he;have HCK:=hZ hck;clear hck
  go_wp2_with (first
   | (go_at_call 18;refine FT.out.mono ?_;rintro e w7 ⟨rfl,hE7⟩;have k0'':=(hE7.cell (cell_lt k0) 0).trans k0;have k1'':=(hE7.cell (cell_lt k1') 1).trans k1')
   | (go_at_call 19;refine (HCK.out _ (EW.out.trans hE7)).mono ?_;rintro e w7b ⟨rfl,hE7b⟩)
   | (go_at_call 20;refine (Words_nil _).mono ?_;rintro e w8 ⟨rfl,hE8⟩)
   | (go_at_call 15;refine (awake_any _).mono ?_;rintro e w9 ⟨rfl,hE9⟩))
  go_returns;exact ⟨rfl,EW.out.trans (hE7.trans (hE7b.trans (hE8.trans hE9)))⟩
def kidB (d:Nd.Dia) (i:Nat) (k:Int):Bool:=refB k i d.ends.length && decide (¬ rankO d k<=rankO d i)
def branchB (d:Nd.Dia) (i:Nat):Bool:=Hp.within 0 ((d.sizes.length:Int)-1) (d.nodeAt i).1 && decide (((d.nodeAt i).2.length:Int)=d.sizes.getD (d.nodeAt i).1.toNat 0) && (d.nodeAt i).2.all (kidB d i)
def looseB (d:Nd.Dia):Bool:=d.ends.all cellOk && (List.range d.nodes.length).all (branchB d) && refB d.root d.nodes.length d.ends.length
structure SrAt (wb w:World) (p1:Option Addr) (k1:Nat) (p2:Option Addr) (k2:Nat) (t:List Int × List Int):Prop where
 ext0:Ext wb w
 r1:Row w 0 p1 k1 t.1
 r2:Row w 0 p2 k2 t.2
 l1:∀ b o,p1=some ⟨b,o,none⟩->wb.heap.size<=b
 l2:∀ b o,p2=some ⟨b,o,none⟩->wb.heap.size<=b
 n12:∀ b o b' o',p1=some ⟨b,o,none⟩->p2=some ⟨b',o',none⟩->b ≠ b'
structure SrTo (wb w:World) (p1 p2:Option Addr) (w':World) (q1:Option Addr) (k1:Nat) (q2:Option Addr) (k2:Nat) (t:List Int × List Int):Prop extends SrAt wb w' q1 k1 q2 k2 t where
 but:But (blk p1 ++ blk p2) w w'
 o1:∀ b o,q1=some ⟨b,o,none⟩->b ∈ blk p1 \/ w.heap.size<=b
 o2:∀ b o,q2=some ⟨b,o,none⟩->b ∈ blk p2 \/ w.heap.size<=b
namespace SrAt
variable {wb w w':World} {p1 p2:Option Addr} {k1 k2:Nat} {t:List Int × List Int}
theorem ext (h:SrAt wb w p1 k1 p2 k2 t) (k:Ext w w'):SrAt wb w' p1 k1 p2 k2 t:=
 { h with ext0:=h.ext0.trans k,r1:=h.r1.ext k,r2:=h.r2.ext k }
theorem same (h:SrAt wb w p1 k1 p2 k2 t) (k:Ext w w'):SrTo wb w p1 p2 w' p1 k1 p2 k2 t:=
 { h.ext k with but:=But.ofExt k,o1:=fun b o e=>.inl (mem_blk e),o2:=fun b o e=>.inl (mem_blk e) }
end SrAt
theorem row_blk {x:Nat} (h:Row w base p c l) (hx:x ∈ blk p):p=some ⟨x,0,none⟩:=by
 rcases h.1.2 with ⟨e,_⟩ | ⟨g,cap,cur,e,_⟩
 . injection e with e1
   subst e1
   cases hx
 injection e with e1
 subst e1
 simp only [blk,List.mem_singleton] at hx
 rw [hx]
namespace SrTo
variable {wb w w1 w2:World} {p1 p2 q1 q2 r1 r2:Option Addr} {k1 k2 j1 j2:Nat} {t u:List Int × List Int}
theorem trans (h:SrTo wb w p1 p2 w1 q1 k1 q2 k2 t) (k:SrTo wb w1 q1 q2 w2 r1 j1 r2 j2 u):SrTo wb w p1 p2 w2 r1 j1 r2 j2 u:=by
 have key1:∀ x,x ∈ blk q1->x ∈ blk p1 \/ w.heap.size<=x:=fun x hx=>h.o1 _ _ (row_blk h.r1 hx)
 have key2:∀ x,x ∈ blk q2->x ∈ blk p2 \/ w.heap.size<=x:=fun x hx=>h.o2 _ _ (row_blk h.r2 hx)
 refine { k with but:=But.over h.but k.but fun x hx=>?_,o1:=fun b o e=>?_,o2:=fun b o e=>?_ }
 . simp only [List.mem_append] at hx ⊢
   rcases hx with hx | hx
   . exact (key1 x hx).imp .inl id
   exact (key2 x hx).imp .inr id
 . rcases k.o1 b o e with h1 | h1
   . exact key1 b h1
   have:=h.but.size;exact .inr (by omega)
 rcases k.o2 b o e with h1 | h1
 . exact key2 b h1
 have:=h.but.size
 exact .inr (by omega)
end SrTo
open Go.RowKit Go.Maps
theorem SrAt.start (w:World):SrAt w w none 0 none 0 ([],[]):=
 ⟨Ext.refl w,⟨World.ownsRow_nil w _ _ _,by simp⟩,⟨World.ownsRow_nil w _ _ _,by simp⟩,by simp,by simp,by simp⟩
theorem looseB_low {d:Nd.Dia} (h:looseB d=true):d.Low/\d.Ref d.root d.nodes.length:=by
 unfold looseB at h
 simp only [Bool.and_eq_true,List.all_eq_true,List.mem_range] at h
 obtain ⟨⟨h1,h2⟩,h3⟩:=h
 refine ⟨fun i hi k hk=>?_,refB_iff.1 h3⟩
 have:=h2 i hi
 unfold branchB at this
 simp only [Bool.and_eq_true,List.all_eq_true] at this
 have:=this.2 k hk
 unfold kidB at this
 simp only [Bool.and_eq_true] at this
 exact refB_iff.1 this.1
open Nd
theorem rank_var {d:Nd.Dia} (fr:Hp.FrOk d.sizes d.order) (h:looseB d=true) (hi:i < d.nodes.length) :
    (∃ t:Nat,d.order[t]? = some (d.nodeAt i).1/\rankO d (i:Int)=t)/\0<=(d.nodeAt i).1/\(d.nodeAt i).1 < d.sizes.length/\((d.nodeAt i).2.length:Int)=d.sizes.getD (d.nodeAt i).1.toNat 0 /\ ∀ k ∈ (d.nodeAt i).2,d.Ref k i/\rankO d (i:Int) < rankO d k:=by
  unfold looseB at h;simp only [Bool.and_eq_true,List.all_eq_true,List.mem_range] at h;have hb:=h.1.2 i hi;unfold branchB at hb;simp only [Bool.and_eq_true,Hp.within,decide_eq_true_eq,List.all_eq_true] at hb;obtain ⟨⟨h1,h2⟩,h3⟩:=hb;have h0:0<=(d.nodeAt i).1:=by omega
  have hm:(d.nodeAt i).1 ∈ d.order:=by
   have:=fr.perm (d.nodeAt i).1.toNat (by omega)
   rwa [Int.toNat_of_nonneg h0] at this
  obtain ⟨t,ht,hr,_⟩:=index_spec hm;refine ⟨⟨t,hr, ?_⟩,h0,by omega,h2,fun k hk=>?_⟩
  . unfold rankO;rw [if_neg (by omega),Int.toNat_natCast,ht,if_neg (by omega)]
  have:=h3 k hk;unfold kidB at this;simp only [Bool.and_eq_true,decide_eq_true_eq] at this;exact ⟨refB_iff.1 this.1,by omega⟩
theorem fit_of {d:Nd.Dia} (fr:Hp.FrOk d.sizes d.order) (h:looseB d=true):∀ (m j:Nat) (r:Int),j+m=d.order.length->d.Ref r d.nodes.length->(0<=r->(j:Int)<=rankO d r)->d.Fit d.sizes (d.order.drop j) r
 | 0,j,r,hj,hR,hk=>by
  rw [List.drop_eq_nil_of_le (by omega)];show r < 0
  rcases Int.lt_or_le r 0 with h0 | h0
  . exact h0
  obtain ⟨i,rfl⟩:∃ i:Nat,r=(i:Int):=⟨r.toNat,by omega⟩
  obtain ⟨⟨t,ht,hr⟩,_⟩:=rank_var fr h (i:=i) (by have:=hR.1;omega);have:=hk h0;have:=(List.getElem?_eq_some_iff.1 ht).1;omega
 | m+1,j,r,hj,hR,hk=>by
  have hjl:j < d.order.length:=by omega
  rw [List.drop_eq_getElem_cons hjl]
  by_cases hc:0<=r/\(d.nodeAt r.toNat).1=d.order[j]
  . right;obtain ⟨i,rfl⟩:∃ i:Nat,r=(i:Int):=⟨r.toNat,by omega⟩
    have hil:i < d.nodes.length:=by have:=hR.1;omega
    obtain ⟨⟨t,ht,hr⟩,h0,h1,h2,h3⟩:=rank_var fr h hil;rw [Int.toNat_natCast] at hc ⊢;have htj:t=j:=nodup_inj fr.nodup ht (by rw [hc.2,List.getElem?_eq_getElem hjl]);subst htj;rw [<- hc.2];refine ⟨hc.1,rfl,h2,fun k hkm=>?_⟩;obtain ⟨k1,k2⟩:=h3 k hkm;exact fit_of fr h m (t+1) k (by omega) ⟨by have:=k1.1;omega,k1.2⟩ fun _=>by omega
  left;refine ⟨hc,fit_of fr h m (j+1) r (by omega) hR fun h0=>?_⟩;obtain ⟨i,rfl⟩:∃ i:Nat,r=(i:Int):=⟨r.toNat,by omega⟩
  obtain ⟨⟨t,ht,hr⟩,_⟩:=rank_var fr h (i:=i) (by have:=hR.1;omega);have h5:=hk h0;rw [Int.toNat_natCast] at hc;have:t ≠ j:=fun e=>hc ⟨h0,by rw [e,List.getElem?_eq_getElem hjl] at ht;exact (Option.some.inj ht).symm⟩
  omega
theorem fit_root {d:Nd.Dia} (fr:Hp.FrOk d.sizes d.order) (h:looseB d=true):d.Fit d.sizes d.order d.root:=by
 have:=fit_of fr h d.order.length 0 d.root (by omega) (looseB_low h).2 fun h0=>by
  obtain ⟨i,e⟩:∃ i:Nat,d.root=(i:Int):=⟨d.root.toNat,by omega⟩
  rw [e];obtain ⟨⟨t,ht,hr⟩,_⟩:=rank_var fr h (i:=i) (by have:=(looseB_low h).2.1;omega);omega
 simpa using this
theorem ord_of (fr:Hp.FrOk z o):Ord z o z.length where
 nodup:=fr.nodup
 pos:=fun c hc=>by
  have h1:=fr.rng c hc;refine ⟨h1.1, ?_,by omega⟩;rw [List.getD_eq_getElem?_getD,List.getElem?_eq_getElem (by omega)];have:=fr.pos _ (List.getElem_mem (l:=z) (n:=c.toNat) (by omega));simp only [Option.getD_some];omega
def prod (z:List Int):Int:=z.foldr (· * ·) 1
theorem prod_pos (h:∀ s ∈ z,1<=s):1<=prod z:=by
 induction z with
 | nil=>simp [prod]
 | cons a r ih=>
  have h1:=h a (by simp);have h2:=ih fun s hs=>h s (by simp [hs])
  show 1<=a * prod r;have:=Int.mul_le_mul h1 h2 (by omega) (by omega);omega
def num:List Int->List Int->Int
 | z :: zs,p :: ps=>p * prod zs+num zs ps
 | _,_=>0
def nth:List Int->Int->List Int
 | [],_=>[]
 | a :: r,n=>n / prod r % a :: nth r n
theorem nth_len:∀ (z:List Int) (n:Int),(nth z n).length=z.length
 | [],_=>rfl
 | _ :: r,n=>by simp [nth,nth_len r n]
theorem nth_add:∀ {r:List Int},(∀ s ∈ r,1<=s) -> ∀ (k m:Int),nth r (k * prod r+m)=nth r m
 | [],_,_,_=>rfl
 | a :: r,h,k,m=>by
  have hp:=prod_pos fun s hs=>h s (List.mem_cons_of_mem _ hs)
  have e:k * prod (a :: r)+m=(k * a) * prod r+m:=by
   show k * (a * prod r)+m=_;rw [Int.mul_assoc]
  simp only [nth];rw [e,nth_add (fun s hs=>h s (List.mem_cons_of_mem _ hs)),Int.add_comm,Int.add_mul_ediv_right _ _ (by omega),Int.add_mul_emod_self_right]
def InPl:List Int->List Int->Prop
 | [],[]=>True
 | a :: r,b :: q=>(0<=b/\b < a)/\InPl r q
 | _,_=>False
theorem InPl.len:∀ {z p:List Int},InPl z p->p.length=z.length
 | [],[],_=>rfl
 | _ :: _,_ :: _,h=>by simp [InPl.len h.2]
 | [],_ :: _,h=>h.elim
 | _ :: _,[],h=>h.elim
theorem num_rng:∀ {z p:List Int},InPl z p->0<=num z p/\num z p < prod z
 | [],[],_=>by simp [num,prod]
 | a :: r,b :: q,⟨⟨h0,h1⟩,h⟩=>by
  obtain ⟨i1,i2⟩:=num_rng h;show 0<=b * prod r+num r q/\b * prod r+num r q < a * prod r
  have k0:=Int.mul_nonneg h0 (show 0<=prod r by omega);have k1:(b+1) * prod r<=a * prod r:=Int.mul_le_mul_of_nonneg_right (by omega) (by omega);rw [Int.add_mul,Int.one_mul] at k1;omega
 | [],_ :: _,h=>h.elim
 | _ :: _,[],h=>h.elim
theorem nth_num:∀ {z p:List Int},(∀ s ∈ z,1<=s)->InPl z p->nth z (num z p)=p
 | [],[],_,_=>rfl
 | a :: r,b :: q,hz,⟨⟨h0,h1⟩,h⟩=>by
  obtain ⟨i1,i2⟩:=num_rng h;have hp:=prod_pos fun s hs=>hz s (List.mem_cons_of_mem _ hs)
  have e1:num (a :: r) (b :: q)=b * prod r+num r q:=rfl;have e2:(b * prod r+num r q) / prod r=b:=by
   rw [Int.add_comm,Int.add_mul_ediv_right _ _ (by omega),Int.ediv_eq_zero_of_lt i1 i2];omega
  rw [e1,nth,e2,Int.emod_eq_of_lt h0 h1,nth_add (fun s hs=>hz s (List.mem_cons_of_mem _ hs)),nth_num (fun s hs=>hz s (List.mem_cons_of_mem _ hs)) h]
 | [],_ :: _,_,h=>h.elim
 | _ :: _,[],_,h=>h.elim
theorem inPl_iff:∀ {z p:List Int},InPl z p ↔ p.length=z.length /\ ∀ i,i < z.length->0<=p.getD i 0/\p.getD i 0 < z.getD i 0
 | [],[]=>by simp [InPl]
 | a :: r,b :: q=>by
  simp only [InPl,inPl_iff (z:=r) (p:=q),List.length_cons];constructor
  . rintro ⟨h0,hl,h⟩;refine ⟨by omega,fun i hi=>?_⟩
    cases i with
    | zero=>simpa using h0
    | succ i=>simpa using h i (by omega)
  rintro ⟨hl,h⟩;refine ⟨by simpa using h 0 (by omega),by omega,fun i hi=>by simpa using h (i+1) (by omega)⟩
 | [],_ :: _=>by simp [InPl]
 | _ :: _,[]=>by simp [InPl]
theorem nth_in:∀ {z:List Int},(∀ s ∈ z,1<=s) -> ∀ n,InPl z (nth z n)
 | [],_,_=>trivial
 | a :: r,h,n=>⟨⟨Int.emod_nonneg _ (by have:=h a (by simp);omega),Int.emod_lt_of_pos _ (by have:=h a (by simp);omega)⟩,nth_in (fun s hs=>h s (by simp [hs])) n⟩
theorem inPl_rep (h:∀ s ∈ z,1<=s):InPl z (List.replicate z.length 0):=by
 rw [inPl_iff]
 refine ⟨by simp,fun i hi=>?_⟩
 simp only [List.getD_eq_getElem?_getD]
 rw [List.getElem?_replicate_of_lt hi,List.getElem?_eq_getElem hi]
 have:=h _ (List.getElem_mem hi)
 simp only [Option.getD_some]
 omega
theorem under_in {z:List Int}:∀ {L p p':List Int},Under z L p p'->InPl z p->InPl z p'
 | [],_,_,h,hp=>by rw [h];exact hp
 | c :: r,p,p',⟨g,hg,h⟩,hp=>by
  refine under_in h ?_;rw [inPl_iff] at hp ⊢;refine ⟨by rw [List.length_set];exact hp.1,fun i hi=>?_⟩;have h2:=hp.2 i hi
  by_cases e:c.toNat=i
  . subst e;have:=mem_upto.1 hg;simp only [List.getD_eq_getElem?_getD] at h2 ⊢;rw [List.getElem?_set_self (by omega)];rw [List.getElem?_eq_getElem hi] at h2 ⊢;unfold digs at hg;have:=mem_upto.1 hg;rw [List.getD_eq_getElem?_getD,List.getElem?_eq_getElem hi] at this;simp only [Option.getD_some] at this h2 ⊢;omega
  simp only [List.getD_eq_getElem?_getD] at h2 ⊢;rw [List.getElem?_set_ne e];exact h2
namespace Nd.Dia
def cellAt (d:Dia) (p:List Int):Int × Int:=d.evL d.order d.root p
theorem ev_end {d:Dia} {r:Int} (hr:r < 0) (p:List Int):∀ L,d.evL L r p=d.endAt (-1-r).toNat
 | []=>rfl
 | c :: L=>by rw [evL,if_neg (by omega),ev_end hr p L]
theorem ev_step {d:Dia} {z:List Int} {r:Int} (hr:0<=r) (p:List Int):∀ {L:List Int},d.Fit z L r -> ∃ L',L'.length < L.length/\(∀ k ∈ (d.nodeAt r.toNat).2,d.Fit z L' k)/\d.evL L r p=d.evL L' ((d.nodeAt r.toNat).2.getD (p.getD (d.nodeAt r.toNat).1.toNat 0).toNat 0) p
 | [],h=>absurd h (by show ¬ r < 0;omega)
 | c :: L,h=>by
  rcases h with ⟨h1,h2⟩ | ⟨_,h1,_,h2⟩
  . obtain ⟨L',a,b,e⟩:=ev_step hr p h2;exact ⟨L',by simp only [List.length_cons];omega,b,by rw [evL,if_neg h1,e]⟩
  exact ⟨L,by simp,h2,by rw [evL,if_pos ⟨hr,h1⟩,h1]⟩
end Nd.Dia
theorem ofP_list {d:Nd.Dia} (fr:Hp.FrOk d.sizes d.order) (h:looseB d=true) {l:List (Int × Int)} (hl:∀ n:Nat,(n:Int) < prod d.sizes->l.getD n (0,0)=d.cellAt (nth d.sizes n)) :
    (ofP d.sizes (fun p=>l.getD (num d.sizes p).toNat (0,0)) d.order (List.replicate d.sizes.length 0) ⟨[],[],[]⟩).1=d.clean.1/\(ofP d.sizes (fun p=>l.getD (num d.sizes p).toNat (0,0)) d.order (List.replicate d.sizes.length 0) ⟨[],[],[]⟩).2.ends=d.clean.2.ends /\
     (ofP d.sizes (fun p=>l.getD (num d.sizes p).toNat (0,0)) d.order (List.replicate d.sizes.length 0) ⟨[],[],[]⟩).2.nodes=d.clean.2.nodes:=by
  have hz:∀ s ∈ d.sizes,1<=s:=fun s hs=>(fr.pos s hs).1
  refine of_clean (looseB_low h).1 (looseB_low h).2 (by rw [List.length_replicate];exact ord_of fr) (fit_root fr h) fun p' hp=>?_
  have hin:=under_in hp (inPl_rep hz);have hn:=num_rng hin;rw [hl _ (by omega),Int.toNat_of_nonneg hn.1,nth_num hz hin];rfl
open Nd
namespace Nd
end Nd
namespace Nd.Dia
end Nd.Dia
open Nd
namespace Nd
namespace Dia
end Dia
end Nd
open Nd
namespace Nd
theorem mapS_get {f:Int->Cl->Int × Cl} (hle:∀ k s,ClLe s (f k s).2):∀ (l:List Int) (s:Cl) (j:Nat) (x:Int),(mapS f l s).1[j]? = some x -> ∃ g s',l[j]? = some g/\x=(f g s').1/\ClLe (f g s').2 (mapS f l s).2
 | [],s,j,x,h=>by simp [mapS] at h
 | k :: r,s,0,x,h=>⟨k,s,rfl,by simpa [mapS] using h.symm,mapS_le hle r _⟩
 | k :: r,s,j+1,x,h=>by
  obtain ⟨g,s',h1,h2,h3⟩:=mapS_get hle r (f k s).2 j x (by simpa [mapS] using h);exact ⟨g,s',by simpa using h1,h2,h3⟩
theorem mapS_lenO {f:Int->Cl->Int × Cl}:∀ (l:List Int) (s:Cl),(mapS f l s).1.length=l.length
 | [],_=>rfl
 | k :: r,s=>by simp [mapS,mapS_lenO r]
def RefOk (o:List Int) (E:List (Int × Int)) (N:List (Int × List Int)) (n t:Nat) (k:Int):Prop:=
 (k < 0 /\ -1-k < E.length) \/ (0<=k/\k < n /\ ∃ q t',N[k.toNat]? = some q/\o[t']? = some q.1/\t<=t')
theorem RefOk.mono {E E':List (Int × Int)} {N N':List (Int × List Int)} {n' t t':Nat} {k:Int} (h:RefOk o E N n t k) (hE:E <+: E') (hN:N <+: N') (hn:n<=n') (ht:t'<=t):RefOk o E' N' n' t' k:=by
 rcases h with ⟨a,b⟩ | ⟨a,b,q,u,h1,h2,h3⟩
 . exact .inl ⟨a,by have:=hE.length_le;omega⟩
 obtain ⟨R,rfl⟩:=hN
 exact .inr ⟨a,by omega,q,u,by rw [List.getElem?_append_left (List.getElem?_eq_some_iff.1 h1).1];exact h1,h2,by omega⟩
structure MkOk (z o:List Int) (E:List (Int × Int)) (N:List (Int × List Int)):Prop where
 node:∀ j q,N[j]? = some q -> ∃ t:Nat,o[t]? = some q.1/\(q.2.length:Int)=z.getD q.1.toNat 0 /\ ∀ k ∈ q.2,RefOk o E N j (t+1) k
theorem MkOk.ends {E E':List (Int × Int)} {N:List (Int × List Int)} (h:MkOk z o E N) (k:E <+: E'):MkOk z o E' N:=
 ⟨fun j q hq=>by
  obtain ⟨t,h1,h2,h3⟩:=h.node j q hq;exact ⟨t,h1,h2,fun x hx=>(h3 x hx).mono k (List.prefix_refl _) (Nat.le_refl _) (Nat.le_refl _)⟩⟩
theorem flat_all (h:flat l=true):∀ x ∈ l,x=l.headD 0:=by
 unfold flat at h
 intro x hx
 simpa using List.all_eq_true.1 h x hx
theorem mNode_ends (q:Int × List Int) (s:Cl):(mNode q s).2.ends=s.ends:=by
 unfold mNode
 split
 . rfl
 split <;> rfl
end Nd
def ofD_ (z o:List Int) (V:List Int->Int × Int):Nd.Dia:=
 let q:=Nd.ofP z V o (List.replicate z.length 0) ⟨[],[],[]⟩
 ⟨z,o,q.2.ends,q.2.nodes,q.1⟩
theorem dia_ext {d e:Nd.Dia} (h1:d.sizes=e.sizes) (h2:d.order=e.order) (h3:d.ends=e.ends) (h4:d.nodes=e.nodes) (h5:d.root=e.root):d=e:=by
 cases d
 cases e
 simp only at h1 h2 h3 h4 h5
 rw [h1,h2,h3,h4,h5]
open Nd
namespace Nd
namespace Dia
end Dia
end Nd
open Nd
namespace Nd
def wt (z:List Int):List Int->Nat
 | []=>1
 | c :: r=>(digs z c).length * wt z r+1
structure Grows (s:Cl) (q:Int × Cl) (k:Nat):Prop where
 e:q.2.ends.length<=s.ends.length+k
 n:q.2.nodes.length<=s.nodes.length+k
 lo : -1-q.1 < q.2.ends.length \/ 0<=q.1
theorem mEnd_grows (v:Int × Int) (s:Cl):Grows s (mEnd v s) 1 /\ -1-(mEnd v s).1 < (mEnd v s).2.ends.length/\(mEnd v s).1 < 0:=by
 unfold mEnd
 split
 . rename_i i hi;obtain ⟨h1,_⟩:=List.idxOf?_eq_some_iff.1 hi;exact ⟨⟨by simp,by simp,.inl (by simp only;omega)⟩,by simp only;omega,by simp only;omega⟩
 exact ⟨⟨by simp,by simp,.inl (by simp;omega)⟩,by simp;omega,by simp only;omega⟩
theorem mNode_len (q:Int × List Int) (s:Cl):(mNode q s).2.nodes.length<=s.nodes.length+1:=by
 unfold mNode
 split
 . simp
 split <;> simp
theorem mapS_grows {f:Int->Cl->Int × Cl} {k:Nat} (hf:∀ g s,(f g s).2.ends.length<=s.ends.length+k/\(f g s).2.nodes.length<=s.nodes.length+k):∀ (l:List Int) (s:Cl),(mapS f l s).2.ends.length<=s.ends.length+l.length * k/\(mapS f l s).2.nodes.length<=s.nodes.length+l.length * k
 | [],s=>by simp [mapS]
 | a :: r,s=>by
  have h1:=hf a s;have h2:=mapS_grows hf r (f a s).2;simp only [mapS,List.length_cons];rw [Nat.succ_mul];omega
def InCl (x:Int) (s:Cl):Prop:=x < s.nodes.length /\ -1-x < s.ends.length
theorem InCl.mono {s s':Cl} (h:InCl x s) (k:ClLe s s'):InCl x s':=by
 have h1:=k.1.length_le
 have h2:=k.2.length_le
 exact ⟨by have:=h.1;omega,by have:=h.2;omega⟩
def pr (z:List Int):List Int->Nat
 | []=>1
 | c :: r=>(digs z c).length * pr z r
theorem pr_pos {z:List Int}:∀ {L:List Int},(∀ c ∈ L,digs z c ≠ [])->1<=pr z L
 | [],_=>Nat.le_refl _
 | c :: r,h=>Nat.mul_pos (List.length_pos_iff.2 (h c (by simp))) (pr_pos fun c hc=>h c (by simp [hc]))
theorem wt_le {z:List Int}:∀ {L:List Int},(∀ c ∈ L,digs z c ≠ [])->wt z L<=pr z L * (L.length+1)
 | [],_=>by simp [wt,pr]
 | c :: r,h=>by
  have h1:=wt_le (z:=z) (L:=r) fun c hc=>h c (by simp [hc])
  have h2:=pr_pos (z:=z) (L:=c :: r) h;simp only [wt,List.length_cons];have h3:(digs z c).length * wt z r<=(digs z c).length * (pr z r * (r.length+1)):=Nat.mul_le_mul_left _ h1;rw [<- Nat.mul_assoc] at h3;show (digs z c).length * wt z r+1<=(digs z c).length * pr z r * (r.length+1+1);rw [Nat.mul_add _ (r.length+1) 1];have:1<=(digs z c).length * pr z r:=h2;omega
theorem pr_foldr (z:List Int) (L:List Int):pr z L=L.foldr (fun c m=>(digs z c).length * m) 1:=by
 induction L with
 | nil=>rfl
 | cons c r ih=>simp [pr,ih]
theorem pr_perm {L M:List Int} (h:L.Perm M):pr z L=pr z M:=by
 rw [pr_foldr,pr_foldr]
 exact h.foldr_eq' (fun x _ y _ m=>by rw [<- Nat.mul_assoc,<- Nat.mul_assoc,Nat.mul_comm (digs z y).length]) 1
theorem pr_all (hz:∀ s ∈ z,1<=s):∀ (k:Nat),k<=z.length->((pr z ((upto z.length).drop k):Nat):Int)=prod (z.drop k):=by
 intro k hk
 obtain ⟨m,hm⟩:∃ m,z.length-k=m:=⟨_,rfl⟩
 induction m generalizing k with
 | zero=>
  rw [List.drop_eq_nil_of_le (by rw [upto_len];omega),List.drop_eq_nil_of_le (by omega)];rfl
 | succ m ih=>
  have hkl:k < z.length:=by omega
  have e1:(upto z.length).drop k=(k:Int) :: (upto z.length).drop (k+1):=by
   rw [List.drop_eq_getElem_cons (by rw [upto_len];omega)]
   congr 1
   simp [upto]
  rw [e1,List.drop_eq_getElem_cons hkl];show (((digs z (k:Int)).length * pr z ((upto z.length).drop (k+1)):Nat):Int)=z[k] * prod (z.drop (k+1));rw [Int.natCast_mul,ih (k+1) (by omega) (by omega)];have:((digs z (k:Int)).length:Int)=z[k]:=by
   unfold digs;rw [upto_len,Int.toNat_natCast,List.getD_eq_getElem?_getD,List.getElem?_eq_getElem hkl,Option.getD_some];have:=hz _ (List.getElem_mem hkl);omega
  rw [this]
end Nd
theorem wt_frame (h:Hp.frameErr z o=0):Nd.wt z o<=14000:=by
 obtain ⟨fr,hp⟩:=Hp.frameErr_ok h
 have hd:∀ c ∈ o,Nd.digs z c ≠ []:=fun c hc e=>by
  have h1:=(ord_of fr).pos c hc;have h2:=congrArg List.length e;unfold Nd.digs at h2;rw [Nd.upto_len,List.length_nil] at h2;omega
 have h1:=Nd.wt_le hd
 have hperm:o.Perm (Nd.upto z.length):=by
  rw [List.perm_iff_count];intro a;have hu:(Nd.upto z.length).Nodup:=by
   unfold Nd.upto;exact List.Pairwise.map _ (fun a b (h:a ≠ b) e=>h (Int.ofNat.inj e)) List.nodup_range
  rw [fr.nodup.count,hu.count]
  by_cases hm:a ∈ o
  . rw [if_pos hm,if_pos (Nd.mem_upto.2 (fr.rng a hm))]
  rw [if_neg hm,if_neg fun h=>hm (by
   have:=Nd.mem_upto.1 h;have h2:=fr.perm a.toNat (by omega)
   rwa [Int.toNat_of_nonneg this.1] at h2)]
 have h2:=Nd.pr_all (z:=z) (fun s hs=>(fr.pos s hs).1) 0 (by omega)
 rw [List.drop_zero,List.drop_zero,<- Nd.pr_perm hperm] at h2
 have h3:prod z<=2000:=by
  have e:∀ (l:List Int) (a:Int),l.foldl (· * ·) a=a * prod l:=by
   intro l
   induction l with
   | nil=>intro a;simp [prod]
   | cons b r ih=>intro a;rw [List.foldl_cons,ih];show a * b * prod r=a * (b * prod r);rw [Int.mul_assoc]
  have:=e z 1;rw [Int.one_mul] at this;rw [<- this];exact hp
 have h4:o.length+1<=7:=by have:=fr.len;have:=fr.toFr.few;omega
 have h5:Nd.pr z o * (o.length+1)<=2000 * 7:=Nat.mul_le_mul (by omega) h4
 omega
end Go.Proofs.YtdokmmhjmclmnaaGreat
