/-
  Part 29 of a proof: LD4 PD1 LH17.
-/
import Derived.Test.YtdokmmhjmclmnaaGreatMB01
import Derived.Test.YtdokmmhjmclmnaaGreatMB14
import Derived.Test.YtdokmmhjmclmnaaGreatMB20
import Derived.Test.YtdokmmhjmclmnaaGreatMB21
import Derived.Test.YtdokmmhjmclmnaaGreatMB28
set_option linter.unusedSimpArgs false
set_option linter.unusedVariables false
set_option linter.unusedSectionVars false
set_option linter.unnecessarySimpa false
namespace Go.Proofs.YtdokmmhjmclmnaaGreat
open Go.RowKit Go.Maps
theorem zip_nodeC_get {N:List (Int × List Int)} {K:List (Option Addr × Nat)} {j:Nat} {q:Int × List Int} {k:Option Addr × Nat} (h:N[j]? = some q) (hk:K[j]? = some k):(List.zipWith nodeC N K)[j]? = some [.int .i64 q.1,.slice k.1 q.2.length k.2]:=by
 rw [List.getElem?_zipWith,h,hk]
 rfl
theorem zip_nodeC_len {N:List (Int × List Int)} {K:List (Option Addr × Nat)} (h:K.length=N.length):(List.zipWith nodeC N K).length=N.length:=by
 rw [List.length_zipWith,h,Nat.min_self]
theorem DgRd.node_cells {w:World} {L:DgL} {z o:List Int} {E:List (Int × Int)} {N:List (Int × List Int)} (h:DgRd w L z o E N) (h0:0 < N.length):∃ b o,L.pn=some ⟨b,o,none⟩ ∧ b < w.heap.size ∧
    ∀ (j:Nat) (q:Int × List Int) (k:Option Addr × Nat),N[j]? = some q → L.K[j]? = some k → w.cell? ⟨b,o+j * 2,none⟩=some (.int .i64 q.1) ∧ w.cell? ⟨b,o+j * 2+1,none⟩=some (.slice k.1 q.2.length k.2):=by
  obtain ⟨b,o',e,hb,hc⟩:=h.n.cells (by rw [zip_nodeC_len h.kl];exact h0);refine ⟨b,o',e,hb,fun j q k hq hk=>⟨?_, ?_⟩⟩
  · exact hc j _ 0 _ (zip_nodeC_get hq hk) rfl
  · exact hc j _ 1 _ (zip_nodeC_get hq hk) rfl
set_option maxRecDepth 100000 in
set_option maxHeartbeats 8000000 in
theorem dEqual_loop {w:World} {L M:DgL} {z o:List Int} {E:List (Int × Int)} {N N':List (Int × List Int)} {x:Int} (h:DgRd w L z o E N) (k:DgRd w M z o E N') (hne:N.length=N'.length) :
    Calls Tryz.prog 27 #[.agg #[.slice L.ps z.length L.cs,.slice L.po o.length L.co,.slice L.pe E.length L.ce,.slice L.pn N.length L.cn,.int .i64 x],.agg #[.slice M.ps z.length M.cs,.slice M.po o.length M.co,.slice M.pe E.length M.ce,.slice M.pn N.length M.cn,.int .i64 x]] w fun e w'=>e = .returned (.bool (decide (N=N'))) ∧ Ext w w':=by
  have H:=Lib.hid h;have K:=Lib.hid k;have H1:=Lib.hid (fun W (hE:Ext w W)=>dSame_is (b:=true) (by simp) (H.out.s.ext hE) (K.out.s.ext hE));have H2:=Lib.hid (fun W (hE:Ext w W)=>dSame_is (b:=true) (by simp) (H.out.o.ext hE) (K.out.o.ext hE));have H3:=Lib.hid (fun W (hE:Ext w W)=>by have:=dAlike_any (H.out.e.ext hE) (K.out.e.ext hE);rw [decide_eq_true (rfl:E=E)] at this;exact this);have l1:=h.s.le;have l2:=h.o.le;have l3:=h.e.le;have l4:=h.n.le;have l4':=k.n.le;have c4:=h.n.cap;have c4':=k.n.cap;rw [List.length_map] at l3;rw [zip_nodeC_len h.kl] at l4;rw [zip_nodeC_len k.kl,← hne] at l4';have HK:=Lib.hid h.kl;have HK':=Lib.hid k.kl;have HM:=Lib.hid hne;clear h k hne;generalize hL:N.length=n at l4 l4' ⊢;have HL:=Lib.hid hL;generalize z.length=nz at *;generalize o.length=no at *;generalize E.length=ne at *;clear hL;have mixed:Tryz.prog.follows .mixedOrders=true:=by kernel_rfl
  go_enter Tryz.func27,Tryz.ntmps27;go_upto_region 3 with (first | (have _t:=hb1;go_at_call 24;refine (H2.out _ (exx)).mono ?_;rintro e w2 ⟨rfl,hb2⟩;obtain ⟨hc2,hf2,hs2⟩:=hb2.cells;have hz2_0:w.heap.size < w2.heap.size:=(by have h:=hb2.le;(try simp at h);omega);have hc2_0:=hb2.cell (b:=w.heap.size) (by first | omega | (simp;done) | (simp;omega));have hf2_0:=hb2.frozen (b:=w.heap.size) (by first | omega | (simp;done) | (simp;omega));have hz2_1:w.heap.size+1 < w2.heap.size:=(by have h:=hb2.le;(try simp at h);omega);have hc2_1:=hb2.cell (b:=w.heap.size+1) (by first | omega | (simp;done) | (simp;omega));have hf2_1:=hb2.frozen (b:=w.heap.size+1) (by first | omega | (simp;done) | (simp;omega))) | (go_at_call 24;refine (H1.out _ (exx)).mono ?_;rintro e w1 ⟨rfl,hb1⟩;obtain ⟨hc1,hf1,hs1⟩:=hb1.cells;have hz1_0:w.heap.size < w1.heap.size:=(by have h:=hb1.le;(try simp at h);omega);have hc1_0:=hb1.cell (b:=w.heap.size) (by first | omega | (simp;done) | (simp;omega));have hf1_0:=hb1.frozen (b:=w.heap.size) (by first | omega | (simp;done) | (simp;omega));have hz1_1:w.heap.size+1 < w1.heap.size:=(by have h:=hb1.le;(try simp at h);omega);have hc1_1:=hb1.cell (b:=w.heap.size+1) (by first | omega | (simp;done) | (simp;omega));have hf1_1:=hb1.frozen (b:=w.heap.size+1) (by first | omega | (simp;done) | (simp;omega))) | (go_at_call 86;refine (H3.out _ (exx)).mono ?_;rintro e w3 ⟨rfl,hb3⟩;obtain ⟨hc3,hf3,hs3⟩:=hb3.cells;have hz3_0:w.heap.size < w3.heap.size:=(by have h:=hb3.le;(try simp at h);omega);have hc3_0:=hb3.cell (b:=w.heap.size) (by first | omega | (simp;done) | (simp;omega));have hf3_0:=hb3.frozen (b:=w.heap.size) (by first | omega | (simp;done) | (simp;omega));have hz3_1:w.heap.size+1 < w3.heap.size:=(by have h:=hb3.le;(try simp at h);omega);have hc3_1:=hb3.cell (b:=w.heap.size+1) (by first | omega | (simp;done) | (simp;omega));have hf3_1:=hb3.frozen (b:=w.heap.size+1) (by first | omega | (simp;done) | (simp;omega))))
  refine cut_world (F:=fun W=>Hid (Ext w W) ∧ W.cell? ⟨w.heap.size,3,none⟩=some (.slice L.pn n L.cn) ∧ W.cell? ⟨w.heap.size+1,3,none⟩=some (.slice M.pn n M.cn)) ⟨Lib.hid (exx), ?a1, ?a2⟩ ?rest
  case a1=>go_simp
  case a2=>go_simp
  case rest=>
  intro w0 ⟨E0,c3,d3⟩;have H0:=Lib.hid (H.out.ext E0.out);have K0:=Lib.hid (K.out.ext E0.out);clear H K H1 H2 H3 hb1 hb2 hb3;generalize w.heap.size+1=bb at d3 ⊢;generalize w.heap.size=ba at c3 ⊢;have za:=cell_lt c3;have zb:=cell_lt d3
  go_wp2_with fail
  go_loopg [5] n (fun g i wr=>∃ j:Nat,j ≤ n ∧ n-j ≤ g ∧ i = .int .i64 j ∧ Aside (Ext w0 wr) ∧ Aside (∀ i,i < j → N[i]? = N'[i]?))
  case atStart=>exact ⟨0,Nat.zero_le _,by omega,rfl,Ext.refl _,fun m hm=>absurd hm (Nat.not_lt_zero _)⟩
  case round=>
   obtain ⟨j,hj,hg,rfl,HE,HA⟩:=hrel;have c3w:=(HE.out.cell za 3).trans c3;have d3w:=(HE.out.cell zb 3).trans d3;have zar:=Nat.lt_of_lt_of_le za HE.out.le;have zbr:=Nat.lt_of_lt_of_le zb HE.out.le
   by_cases hlt:j < n
   · obtain ⟨⟨v,ks⟩,hf⟩:=get_list (E:=N) (j:=j) (by rw [HL.out];exact hlt);obtain ⟨⟨v',ks'⟩,hf'⟩:=get_list (E:=N') (j:=j) (by rw [← HM.out,HL.out];exact hlt);obtain ⟨⟨q1,q2⟩,hq⟩:=get_list (E:=L.K) (j:=j) (by rw [HK.out,HL.out];exact hlt);obtain ⟨⟨q1',q2'⟩,hq'⟩:=get_list (E:=M.K) (j:=j) (by rw [HK'.out,← HM.out,HL.out];exact hlt);have H4:=Lib.hid (H0.out.ext HE.out);have K4:=Lib.hid (K0.out.ext HE.out);obtain ⟨b,oo,hpn,hb,hc⟩:=H4.out.node_cells (by rw [HL.out];omega);obtain ⟨b',oo',hpn',hb',hc'⟩:=K4.out.node_cells (by rw [← HM.out,HL.out];omega);rw [hpn] at c3w;rw [hpn'] at d3w;obtain ⟨g1,g2⟩:=hc j _ _ hf hq;obtain ⟨k1,k2⟩:=hc' j _ _ hf' hq';simp only at g1 g2 k1 k2;have SK:=Lib.hid (H4.out.ks j _ _ hf hq);have SK':=Lib.hid (K4.out.ks j _ _ hf' hq');obtain ⟨bs,hbs⟩:∃ bs,decide (ks=ks')=bs:=⟨_,rfl⟩
     have SM:=Lib.hid (fun W (hE:Ext wr W)=>dSame_is hbs (SK.out.ext hE) (SK'.out.ext hE));simp only at SM;have HBS:=Lib.hid hbs;have HF:=Lib.hid hf;have HF':=Lib.hid hf';have tk:decide ((j:Int) < (n:Int))=true:=decide_eq_true (by omega);clear hf hc hf' hc' hq hq' SK SK' hbs hpn hpn';have e:∀ (v1 v2:Int) (k1 k2:List Int),(v1,k1) ≠ (v2,k2) → N[j]? = some (v1,k1) → N'[j]? = some (v2,k2) → decide (N=N')=false:=fun v1 v2 k1 k2 hne e1 e2=>by
      apply decide_eq_false;rintro rfl;rw [e1] at e2;exact hne (Option.some.inj e2)
     have EE:=Lib.hid e;clear e
     by_cases he:v=v'
     · subst he
       go_wp2_with fail
       have PR23:=Lib.hid (fun (ww:World) (hSw:Ext wr ww)=>And.intro ((hSw.cell zar 3).trans c3w) (And.intro ((hSw.cell zbr 3).trans d3w) (And.intro ((hSw.cell hb (oo+j * 2)).trans g1) (And.intro ((hSw.cell hb' (oo'+j * 2)).trans k1) (And.intro ((hSw.cell hb (oo+j * 2+1)).trans g2) ((hSw.cell hb' (oo'+j * 2+1)).trans k2))))));refine wp_region_seq (S:=fun W=>Ext wr W) (R:=Ext) (by kernel_rfl) Ext.refl ?_ ?_
       · exact exx
       refine' tkL 0 rfl ?h0_1 ?_
       case h0_1=>(intro w q;obtain ⟨c3',d3',g1',k1',g2',k2'⟩:=PR23.out w q;go_simp;try with_reducible rfl)
       refine layy ?_;refine' tkL 1 rfl ?h1_2 ?_
       case h1_2=>(intro w q;obtain ⟨c3',d3',g1',k1',g2',k2'⟩:=PR23.out w q;go_simp;try with_reducible rfl)
       refine layy ?_;refine' tkL 2 rfl ?h2_3 ?_
       case h2_3=>(intro w q;obtain ⟨c3',d3',g1',k1',g2',k2'⟩:=PR23.out w q;go_simp;try with_reducible rfl)
       refine layy ?_;refine' tkL 3 rfl ?h3_4 ?_
       case h3_4=>(intro w q;obtain ⟨c3',d3',g1',k1',g2',k2'⟩:=PR23.out w q;go_simp;try with_reducible rfl)
       refine layy ?_;refine' tkL 4 rfl ?h4_5 ?_
       case h4_5=>(intro w q;obtain ⟨c3',d3',g1',k1',g2',k2'⟩:=PR23.out w q;go_simp;try with_reducible rfl)
       refine layy ?_;refine' tkL 5 rfl ?h5_6 ?_
       case h5_6=>(intro w q;obtain ⟨c3',d3',g1',k1',g2',k2'⟩:=PR23.out w q;go_simp;try with_reducible rfl)
       refine layy ?_;refine' tkL 6 rfl ?h6_7 ?_
       case h6_7=>(intro w q;obtain ⟨c3',d3',g1',k1',g2',k2'⟩:=PR23.out w q;go_simp;try with_reducible rfl)
       refine layy ?_;refine' tkL 7 rfl ?h7_8 ?_
       case h7_8=>(intro w q;obtain ⟨c3',d3',g1',k1',g2',k2'⟩:=PR23.out w q;go_simp;try with_reducible rfl)
       refine layy ?_;refine' tkL 8 rfl ?h8_9 ?_
       case h8_9=>(intro w q;obtain ⟨c3',d3',g1',k1',g2',k2'⟩:=PR23.out w q;go_simp;try with_reducible rfl)
       refine layy ?_;refine' tkL 9 rfl ?h9_10 ?_
       case h9_10=>(intro w q;obtain ⟨c3',d3',g1',k1',g2',k2'⟩:=PR23.out w q;go_simp;try with_reducible rfl)
       refine layy ?_;refine' tkL 10 rfl ?h10_11 ?_
       case h10_11=>(intro w q;obtain ⟨c3',d3',g1',k1',g2',k2'⟩:=PR23.out w q;go_simp;try with_reducible rfl)
       refine layy ?_;refine' tkL 11 rfl ?h11_12 ?_
       case h11_12=>(intro w q;obtain ⟨c3',d3',g1',k1',g2',k2'⟩:=PR23.out w q;go_simp;try with_reducible rfl)
       refine layy ?_;refine' tkL 12 rfl ?h12_13 ?_
       case h12_13=>(intro w q;obtain ⟨c3',d3',g1',k1',g2',k2'⟩:=PR23.out w q;go_simp;try with_reducible rfl)
       refine layy ?_;refine' tkL 13 rfl ?h13_14 ?_
       case h13_14=>(intro w q;obtain ⟨c3',d3',g1',k1',g2',k2'⟩:=PR23.out w q;go_simp;try with_reducible rfl)
       refine layy ?_;refine' tkL 14 rfl ?h14_15 ?_
       case h14_15=>(intro w q;obtain ⟨c3',d3',g1',k1',g2',k2'⟩:=PR23.out w q;go_simp;try with_reducible rfl)
       refine layy ?_;refine' tkL 15 rfl ?h15_16 ?_
       case h15_16=>(intro w q;obtain ⟨c3',d3',g1',k1',g2',k2'⟩:=PR23.out w q;go_simp;try with_reducible rfl)
       refine layy ?_;refine' tkL 16 rfl ?h16_17 ?_
       case h16_17=>(intro w q;obtain ⟨c3',d3',g1',k1',g2',k2'⟩:=PR23.out w q;go_simp;try with_reducible rfl)
       refine layy ?_;refine' tkL 17 rfl ?h17_18 ?_
       case h17_18=>(intro w q;obtain ⟨c3',d3',g1',k1',g2',k2'⟩:=PR23.out w q;go_simp;try with_reducible rfl)
       refine layy ?_;refine' tkL 18 rfl ?h18_19 ?_
       case h18_19=>(intro w q;obtain ⟨c3',d3',g1',k1',g2',k2'⟩:=PR23.out w q;go_simp;try with_reducible rfl)
       refine layy ?_;refine' tkL 19 rfl ?h19_20 ?_
       case h19_20=>(intro w q;obtain ⟨c3',d3',g1',k1',g2',k2'⟩:=PR23.out w q;go_simp;try with_reducible rfl)
       refine layy ?_;refine' tkL 20 rfl ?h20_21 ?_
       case h20_21=>(intro w q;obtain ⟨c3',d3',g1',k1',g2',k2'⟩:=PR23.out w q;go_simp;try with_reducible rfl)
       refine layy ?_;refine' tkL 21 rfl ?h21_22 ?_
       case h21_22=>(intro w q;obtain ⟨c3',d3',g1',k1',g2',k2'⟩:=PR23.out w q;go_simp;try with_reducible rfl)
       refine layy ?_;refine' tkL 22 rfl ?h22_23 ?_
       case h22_23=>(intro w q;obtain ⟨c3',d3',g1',k1',g2',k2'⟩:=PR23.out w q;go_simp;try with_reducible rfl)
       refine layy ?_;refine' tkL 23 rfl ?h23_24 ?_
       case h23_24=>(intro w q;obtain ⟨c3',d3',g1',k1',g2',k2'⟩:=PR23.out w q;go_simp;try with_reducible rfl)
       refine layy ?_;refine' tkL 24 rfl ?h24_25 ?_
       case h24_25=>(intro w q;obtain ⟨c3',d3',g1',k1',g2',k2'⟩:=PR23.out w q;go_simp;try with_reducible rfl)
       refine layy ?_;refine' tkL 25 rfl ?h25_26 ?_
       case h25_26=>(intro w q;obtain ⟨c3',d3',g1',k1',g2',k2'⟩:=PR23.out w q;go_simp;try with_reducible rfl)
       refine layy ?_;refine' tkR 26 (v:=.bool bs) rfl (Or.inr ⟨by rfl,24,_, ?hx26_27, ?hy26_27⟩) ?rest26_27
       case hx26_27=>(intro w hSw;go_simp;try with_reducible rfl)
       case hy26_27=>exact fun w hE=>(SM.out _ hE).mono (fun _ _ h=>⟨h.1,h.2,Ext.trans hE h.2⟩)
       refine layy ?_;refine' tkL 27 rfl ?h27_28 ?_
       case h27_28=>(intro w q;obtain ⟨c3',d3',g1',k1',g2',k2'⟩:=PR23.out w q;go_simp;try with_reducible rfl)
       refine layy ?_;refine' tkL 28 rfl ?h28_29 ?_
       case h28_29=>(intro w q;obtain ⟨c3',d3',g1',k1',g2',k2'⟩:=PR23.out w q;go_simp;try with_reducible rfl)
       refine layy ?_;refine wpAnyR_done (by kernel_rfl) ?_ _;intro x1 _ Ex1
       cases bs with
       | true=>
        go_wp2_with fail
        go_roundg (n-(j+1))
        case measure=>omega
        case rel=>
         refine ⟨j+1,by omega,by omega,by go_num,(show Aside _ from HE.out.trans Ex1),(show Aside _ from fun i hi=>?_)⟩
         by_cases e:i=j
         · subst e;rw [HF.out,HF'.out];have:=of_decide_eq_true HBS.out;rw [this]
         · exact HA.out i (by omega)
       | false=>
        go_wp2_with fail
        go_returns;rw [EE.out _ _ _ _ (fun e=>(of_decide_eq_false HBS.out) (Prod.mk.inj e).2) HF.out HF'.out];exact ⟨rfl,(E0.out.trans HE.out).trans Ex1⟩
     · have e1:(v != v')=true:=by simpa using he
       go_wp2_with fail
       have PR24:=Lib.hid (fun (ww:World) (hSw:Ext wr ww)=>And.intro ((hSw.cell zar 3).trans c3w) (And.intro ((hSw.cell zbr 3).trans d3w) (And.intro ((hSw.cell hb (oo+j * 2)).trans g1) ((hSw.cell hb' (oo'+j * 2)).trans k1))));refine wp_region_seq (S:=fun W=>Ext wr W) (R:=Ext) (by kernel_rfl) Ext.refl ?_ ?_
       · exact exx
       refine' tkL 0 rfl ?h0_30 ?_
       case h0_30=>(intro w q;obtain ⟨c3',d3',g1',k1'⟩:=PR24.out w q;go_simp;try with_reducible rfl)
       refine layy ?_;refine' tkL 1 rfl ?h1_31 ?_
       case h1_31=>(intro w q;obtain ⟨c3',d3',g1',k1'⟩:=PR24.out w q;go_simp;try with_reducible rfl)
       refine layy ?_;refine' tkL 2 rfl ?h2_32 ?_
       case h2_32=>(intro w q;obtain ⟨c3',d3',g1',k1'⟩:=PR24.out w q;go_simp;try with_reducible rfl)
       refine layy ?_;refine' tkL 3 rfl ?h3_33 ?_
       case h3_33=>(intro w q;obtain ⟨c3',d3',g1',k1'⟩:=PR24.out w q;go_simp;try with_reducible rfl)
       refine layy ?_;refine' tkL 4 rfl ?h4_34 ?_
       case h4_34=>(intro w q;obtain ⟨c3',d3',g1',k1'⟩:=PR24.out w q;go_simp;try with_reducible rfl)
       refine layy ?_;refine' tkL 5 rfl ?h5_35 ?_
       case h5_35=>(intro w q;obtain ⟨c3',d3',g1',k1'⟩:=PR24.out w q;go_simp;try with_reducible rfl)
       refine layy ?_;refine' tkL 6 rfl ?h6_36 ?_
       case h6_36=>(intro w q;obtain ⟨c3',d3',g1',k1'⟩:=PR24.out w q;go_simp;try with_reducible rfl)
       refine layy ?_;refine' tkL 7 rfl ?h7_37 ?_
       case h7_37=>(intro w q;obtain ⟨c3',d3',g1',k1'⟩:=PR24.out w q;go_simp;try with_reducible rfl)
       refine layy ?_;refine' tkL 8 rfl ?h8_38 ?_
       case h8_38=>(intro w q;obtain ⟨c3',d3',g1',k1'⟩:=PR24.out w q;go_simp;try with_reducible rfl)
       refine layy ?_;refine' tkL 9 rfl ?h9_39 ?_
       case h9_39=>(intro w q;obtain ⟨c3',d3',g1',k1'⟩:=PR24.out w q;go_simp;try with_reducible rfl)
       refine layy ?_;refine' tkL 10 rfl ?h10_40 ?_
       case h10_40=>(intro w q;obtain ⟨c3',d3',g1',k1'⟩:=PR24.out w q;go_simp;try with_reducible rfl)
       refine layy ?_;refine' tkL 11 rfl ?h11_41 ?_
       case h11_41=>(intro w q;obtain ⟨c3',d3',g1',k1'⟩:=PR24.out w q;go_simp;try with_reducible rfl)
       refine layy ?_;refine' tkL 12 rfl ?h12_42 ?_
       case h12_42=>(intro w q;obtain ⟨c3',d3',g1',k1'⟩:=PR24.out w q;go_simp;try with_reducible rfl)
       refine layy ?_;refine' tkL 13 rfl ?h13_43 ?_
       case h13_43=>(intro w q;obtain ⟨c3',d3',g1',k1'⟩:=PR24.out w q;go_simp;try with_reducible rfl)
       refine layy ?_;refine' tkR 14 (v:=undef) rfl (Or.inl (Or.inr ⟨by rfl,rfl⟩)) ?rest14_44;refine layy ?_;refine' tkR 15 (v:=undef) rfl (Or.inl (Or.inr ⟨by rfl,rfl⟩)) ?rest15_45;refine layy ?_;refine' tkR 16 (v:=undef) rfl (Or.inl (Or.inr ⟨by rfl,rfl⟩)) ?rest16_46;refine layy ?_;refine' tkR 17 (v:=undef) rfl (Or.inl (Or.inr ⟨by rfl,rfl⟩)) ?rest17_47;refine layy ?_;refine' tkR 18 (v:=undef) rfl (Or.inl (Or.inr ⟨by rfl,rfl⟩)) ?rest18_48;refine layy ?_;refine' tkR 19 (v:=undef) rfl (Or.inl (Or.inr ⟨by rfl,rfl⟩)) ?rest19_49;refine layy ?_;refine' tkR 20 (v:=undef) rfl (Or.inl (Or.inr ⟨by rfl,rfl⟩)) ?rest20_50;refine layy ?_;refine' tkR 21 (v:=undef) rfl (Or.inl (Or.inr ⟨by rfl,rfl⟩)) ?rest21_51;refine layy ?_;refine' tkR 22 (v:=undef) rfl (Or.inl (Or.inr ⟨by rfl,rfl⟩)) ?rest22_52;refine layy ?_;refine' tkR 23 (v:=undef) rfl (Or.inl (Or.inr ⟨by rfl,rfl⟩)) ?rest23_53;refine layy ?_;refine' tkR 24 (v:=undef) rfl (Or.inl (Or.inr ⟨by rfl,rfl⟩)) ?rest24_54;refine layy ?_;refine' tkR 25 (v:=undef) rfl (Or.inl (Or.inr ⟨by rfl,rfl⟩)) ?rest25_55;refine layy ?_;refine' tkR 26 (v:=undef) rfl (Or.inl (Or.inr ⟨by rfl,rfl⟩)) ?rest26_56;refine layy ?_;refine' tkR 27 (v:=undef) rfl (Or.inl (Or.inr ⟨by rfl,rfl⟩)) ?rest27_57;refine layy ?_;refine' tkL 28 rfl ?h28_58 ?_
       case h28_58=>(intro w q;obtain ⟨c3',d3',g1',k1'⟩:=PR24.out w q;go_simp;try with_reducible rfl)
       refine layy ?_;refine wpAnyR_done (by kernel_rfl) ?_ _;intro x1 _ Ex1
       go_wp2_with fail
       go_returns;rw [EE.out _ _ _ _ (fun e=>he (Prod.mk.inj e).1) HF.out HF'.out];exact ⟨rfl,(E0.out.trans HE.out).trans Ex1⟩
   · have:j=n:=by omega
     subst this;have tk:decide ((j:Int) < (j:Int))=false:=decide_eq_false (by omega)
     go_wp2_with fail
     go_returns;rw [decide_eq_true (list_eq_of_get HM.out (by rw [HL.out];exact HA.out))];exact ⟨rfl,E0.out.trans HE.out⟩
def cellOk (v:Int × Int):Bool:=if v.1=0 then Hp.within (-9999) 9999 v.2 else decide (v.1 ≤ 4) && decide (v.2=0)
set_option maxHeartbeats 4000000 in
theorem dIsCell {w:World} (f n:Int) (h0:0 ≤ f) :
    Calls Tryz.prog 134 #[.agg #[.int .u8 f,.int .i64 n]] w fun e w'=>e = .returned (.bool (cellOk (f,n))) ∧ Ext w w':=by
  by_cases hf:f=0
  · subst hf;have e:cellOk (0,n)=Hp.within (-9999) 9999 n:=by unfold cellOk;rw [if_pos rfl]
    rw [e];have HI:=Lib.hid (fun W=>dIn n (-9999) 9999 W);go_enter Tryz.func134,Tryz.ntmps134
    go_wp2_with (go_at_call 66;refine (HI.out _).mono ?_;rintro e w1 ⟨rfl,hb1⟩;obtain ⟨hc1,hf1,hs1⟩:=hb1.cells)
    go_returns;exact ⟨rfl,exx⟩
  · have t0:(f == 0)=false:=by simpa using hf
    by_cases h4:f ≤ 4
    · have t1:decide (f ≤ 4)=true:=decide_eq_true h4;have e:cellOk (f,n)=(n == 0):=by
       unfold cellOk;rw [if_neg hf];simp only [t1,Bool.true_and]
       by_cases hn:n=0
       · simp [hn]
       · simp [hn]
      rw [e];clear e hf h4;go_enter Tryz.func134,Tryz.ntmps134
      go_wp2_with fail
      go_returns;exact ⟨rfl,exx⟩
    · have t1:decide (f ≤ 4)=false:=decide_eq_false h4;have e:cellOk (f,n)=false:=by
       unfold cellOk;rw [if_neg hf];simp only [t1,Bool.false_and]
      rw [e];clear e hf h4;go_enter Tryz.func134,Tryz.ntmps134
      go_wp2_with fail
      go_returns;exact ⟨rfl,exx⟩
set_option maxRecDepth 100000 in
set_option maxHeartbeats 4000000 in
theorem dHas {w:World} {p:Option Addr} {c:Nat} {l:List Int} (h:SliceAt w p c l) (x:Int) :
    Calls Tryz.prog 178 #[.slice p l.length c,.int .i64 x] w fun e w'=>e = .returned (.bool (decide (x ∈ l))) ∧ Ext w w':=by
  have hle:=h.le;have hcap:=h.cap;have H:=Lib.hid h;clear h;generalize hL:l.length=n at hle ⊢;have HL:=Lib.hid hL;clear hL;go_enter Tryz.func178,Tryz.ntmps178;go_wp2
  go_loopg [5] n (fun g i wr=>∃ j:Nat,j ≤ n ∧ n-j ≤ g ∧ i = .int .i64 j ∧ Aside (Ext w wr) ∧ Aside (∀ m y,m < j → Hp.rd l m=some y → y ≠ x))
  case atStart=>exact ⟨0,Nat.zero_le _,by omega,rfl,Ext.refl w,fun m y hm=>absurd hm (Nat.not_lt_zero _)⟩
  case round=>
   obtain ⟨j,hj,hg,rfl,HE,HA⟩:=hrel
   by_cases hlt:j < n
   · obtain ⟨y,hy⟩:=rd_get (l:=l) (j:=j) (by rw [HL.out];exact hlt);obtain ⟨b,o,rfl,hb,hc⟩:=(H.out.ext HE.out).cells (by rw [HL.out];omega);have g1:=hc j y hy;have tk:decide ((j:Int) < (n:Int))=true:=decide_eq_true (by omega);have HY:=Lib.hid hy;clear hc hy
     by_cases he:y=x
     · subst he;have e:decide (y ∈ l)=true:=decide_eq_true (List.mem_of_getElem? HY.out);have HEQ:=Lib.hid e;clear e
       go_wp2_with fail
       go_returns;exact ⟨by rw [HEQ.out];rfl,HE.out⟩
     · have t0:(y == x)=false:=by simpa using he
       have HN:=Lib.hid he;clear he
       go_wp2_with fail
       go_roundg (n-(j+1))
       case measure=>omega
       case rel=>
        refine ⟨j+1,by omega,by omega,by go_num,(show Aside _ from HE.out),(show Aside _ from fun m z hm hz=>?_)⟩
        by_cases e:m=j
        · subst e;rw [HY.out] at hz
          cases hz
          exact HN.out
        · exact HA.out m z (by omega) hz
   · have hjn:j=n:=by omega
     subst hjn;have tk:decide ((j:Int) < (j:Int))=false:=decide_eq_false (by omega);have e:decide (x ∈ l)=false:=by
      apply decide_eq_false;intro hm;obtain ⟨m,hm⟩:=List.mem_iff_getElem?.1 hm;have hml:m < l.length:=by
       rcases Nat.lt_or_ge m l.length with h | h
       · exact h
       · rw [List.getElem?_eq_none h] at hm
         cases hm
      exact HA.out m x (by rw [← HL.out];exact hml) hm rfl
     have HEQ:=Lib.hid e;clear e
     go_wp2_with fail
     go_returns;exact ⟨by rw [HEQ.out];rfl,HE.out⟩
theorem rising_iff {l:List Int} {n:Nat}:l=Nd.upto n ↔ l.length=n ∧ ∀ m y,Hp.rd l m=some y → y=(m:Int):=by
 constructor
 · rintro rfl;refine ⟨Nd.upto_len n,fun m y h=>?_⟩;unfold Hp.rd Nd.upto at h;rw [List.getElem?_map] at h
   cases hr:(List.range n)[m]? with
   | none=>rw [hr] at h;cases h
   | some k=>
    rw [hr] at h;obtain ⟨hm,e⟩:=List.getElem?_eq_some_iff.1 hr;rw [List.getElem_range] at e
    cases h
    rw [e];rfl
 · rintro ⟨h1,h2⟩;apply List.ext_getElem? ;intro i
   by_cases hi:i < l.length
   · have e:=h2 i l[i] (List.getElem?_eq_getElem hi);rw [List.getElem?_eq_getElem hi,e];unfold Nd.upto;rw [List.getElem?_map,List.getElem?_range (by omega)];rfl
   · rw [List.getElem?_eq_none (by omega),List.getElem?_eq_none (by rw [Nd.upto_len];omega)]
set_option maxRecDepth 100000 in
set_option maxHeartbeats 4000000 in
theorem dRising {w:World} {p:Option Addr} {c:Nat} {l:List Int} (h:SliceAt w p c l) (k:Nat) :
    Calls Tryz.prog 155 #[.slice p l.length c,.int .i64 k] w fun e w'=>e = .returned (.bool (decide (l=Nd.upto k))) ∧ Ext w w':=by
  have hle:=h.le;have hcap:=h.cap;have H:=Lib.hid h;clear h;generalize hL:l.length=n at hle ⊢;have HL:=Lib.hid hL;clear hL;go_enter Tryz.func155,Tryz.ntmps155;go_wp2
  go_loopg [5] n (fun g i wr=>∃ j:Nat,j ≤ n ∧ n-j ≤ g ∧ i = .int .i64 j ∧ Aside (Ext w wr) ∧ Aside (∀ m y,m < j → Hp.rd l m=some y → y=(m:Int)))
  case atStart=>exact ⟨0,Nat.zero_le _,by omega,rfl,Ext.refl w,fun m y hm=>absurd hm (Nat.not_lt_zero _)⟩
  case round=>
   obtain ⟨j,hj,hg,rfl,HE,HA⟩:=hrel
   by_cases hlt:j < n
   · obtain ⟨y,hy⟩:=rd_get (l:=l) (j:=j) (by rw [HL.out];exact hlt);obtain ⟨b,o,rfl,hb,hc⟩:=(H.out.ext HE.out).cells (by rw [HL.out];omega);have g1:=hc j y hy;have tk:decide ((j:Int) < (n:Int))=true:=decide_eq_true (by omega);have HY:=Lib.hid hy;clear hc hy
     by_cases he:y=(j:Int)
     · subst he;have t0:((j:Int) != (j:Int))=false:=by simp
       go_wp2_with fail
       go_roundg (n-(j+1))
       case measure=>omega
       case rel=>
        refine ⟨j+1,by omega,by omega,by go_num,(show Aside _ from HE.out),(show Aside _ from fun m z hm hz=>?_)⟩
        by_cases e:m=j
        · subst e;rw [HY.out] at hz
          cases hz
          rfl
        · exact HA.out m z (by omega) hz
     · have t0:(y != (j:Int))=true:=by simpa using he
       have e:decide (l=Nd.upto k)=false:=by
        apply decide_eq_false;intro e;exact he ((rising_iff.1 e).2 j y HY.out)
       have HEQ:=Lib.hid e;clear e he
       go_wp2_with fail
       go_returns;exact ⟨by rw [HEQ.out];rfl,HE.out⟩
   · have hjn:j=n:=by omega
     subst hjn;have tk:decide ((j:Int) < (j:Int))=false:=decide_eq_false (by omega);have e:decide (l=Nd.upto k)=((j:Int) == (k:Int)):=by
      by_cases hk:j=k
      · subst hk
        have:l=Nd.upto j:=rising_iff.2 ⟨HL.out,fun m y hy=>HA.out m y (by
         have:m < l.length:=by
          rcases Nat.lt_or_ge m l.length with h | h
          · exact h
          · rw [show Hp.rd l m=l[m]? from rfl,List.getElem?_eq_none h] at hy
            cases hy
         have:=HL.out;omega) hy⟩
        rw [decide_eq_true this];simp
      · have:¬ l=Nd.upto k:=fun e=>hk (by rw [← HL.out];exact (rising_iff.1 e).1)
        rw [decide_eq_false this]
        symm
        simp only [beq_eq_false_iff_ne,ne_eq];omega
     have HEQ:=Lib.hid e;clear e
     go_wp2_with fail
     go_returns;exact ⟨by rw [HEQ.out];rfl,HE.out⟩
def refB (r:Int) (below:Nat) (ne:Nat):Bool:=if 0 ≤ r then decide (r < below) else decide (-1-r < ne)
theorem refB_iff {d:Nd.Dia} {r:Int} {n:Nat}:refB r n d.ends.length=true ↔ d.Ref r n:=by
 unfold refB Nd.Dia.Ref
 split <;> simp <;> omega
set_option maxHeartbeats 4000000 in
theorem dIsRef {w:World} (L:DgL) (zs os es ns:Nat) (x r:Int) (b:Nat) (he:es ≤ 1000000) (hr : -9223372036854775808 ≤ r ∧ r ≤ 9223372036854775807) :
    Calls Tryz.prog 176 #[dgV L zs os es ns x,.int .i64 r,.int .i64 b] w fun e w'=>e = .returned (.bool (refB r b es)) ∧ Ext w w':=by
  unfold dgV DgL.cells
  by_cases h:0 ≤ r
  · have e:refB r b es=decide (r < (b:Int)):=by unfold refB;rw [if_pos h]
    rw [e];clear e;have tk:decide (0 ≤ r)=true:=decide_eq_true h;clear h;go_enter Tryz.func176,Tryz.ntmps176
    go_wp2_with fail
    go_returns;exact ⟨rfl,exx⟩
  · have e:refB r b es=Hp.within 0 ((es:Int)-1) (-1-r):=by
      unfold refB Hp.within;rw [if_neg h];have t1:decide (0 ≤ -1-r)=true:=decide_eq_true (by omega);rw [t1,Bool.true_and]
      by_cases h2 : -1-r < (es:Int)
      · rw [decide_eq_true h2,decide_eq_true (by omega)]
      · rw [decide_eq_false h2,decide_eq_false (by omega)]
    rw [e];clear e;have tk:decide (0 ≤ r)=false:=decide_eq_false h;have s1:IntKind.i64.wrap (-1-r) = -1-r:=IntWalk.i64_in _ (by omega);have s2:IntKind.i64.wrap ((es:Int)-1)=(es:Int)-1:=IntWalk.i64_in _ (by omega);have HI:=Lib.hid (fun W=>dIn (-1-r) 0 ((es:Int)-1) W);clear h;go_enter Tryz.func176,Tryz.ntmps176
    go_wp2_with (go_at_call 66;refine (HI.out _).mono ?_;rintro e w1 ⟨rfl,hb1⟩;obtain ⟨hc1,hf1,hs1⟩:=hb1.cells)
    go_returns;exact ⟨rfl,exx⟩
theorem index_at {o:List Int} {v:Int} {j:Nat} (hA:∀ m y,m < j → Hp.rd o m=some y → y ≠ v) (hj:Hp.rd o j=some v):Hp.index o v=(j:Int):=by
 unfold Hp.index
 have:o.findIdx? (· == v)=some j:=by
  rw [List.findIdx?_eq_some_iff_getElem];obtain ⟨hl,e⟩:=List.getElem?_eq_some_iff.1 hj;refine ⟨hl,by simp [e],fun i hi=>?_⟩;have:=hA i o[i] hi (List.getElem?_eq_getElem (by omega))
  simpa using this
 rw [this]
theorem index_none {o:List Int} {v:Int} (hA:∀ m y,m < o.length → Hp.rd o m=some y → y ≠ v):Hp.index o v = -1:=by
 unfold Hp.index
 have:o.findIdx? (· == v)=none:=by
  rw [List.findIdx?_eq_none_iff];intro y hy;obtain ⟨m,hm⟩:=List.mem_iff_getElem?.1 hy;obtain ⟨hl,_⟩:=List.getElem?_eq_some_iff.1 hm
  simpa using hA m y hl hm
 rw [this]
def rankO (d:Nd.Dia) (r:Int):Int:=if r < 0 then d.order.length else if Hp.index d.order (d.nodeAt r.toNat).1 < 0 then d.order.length else Hp.index d.order (d.nodeAt r.toNat).1
set_option maxRecDepth 100000 in
set_option maxHeartbeats 8000000 in
theorem dRank {w:World} {L:DgL} {d:Nd.Dia} (h:DgRd w L d.sizes d.order d.ends d.nodes) (r:Int) (hr:r < d.nodes.length) :
    Calls Tryz.prog 177 #[dgV L d.sizes.length d.order.length d.ends.length d.nodes.length d.root,.int .i64 r] w fun e w'=>e = .returned (.int .i64 (rankO d r)) ∧ Ext w w':=by
  have hle:=h.o.le;have hcap:=h.o.cap;have hnl:=h.n.le;rw [zip_nodeC_len h.kl] at hnl;have H:=Lib.hid h;have HR:=Lib.hid hr;clear h;unfold dgV DgL.cells
  by_cases h0:r < 0
  · have e:rankO d r=d.order.length:=by unfold rankO;rw [if_pos h0]
    rw [e];clear e;have tk:decide (0 ≤ r)=false:=decide_eq_false (by omega);clear h0 hr;generalize d.sizes.length=n1 at *;generalize d.order.length=n2 at *;generalize d.ends.length=n3 at *;generalize d.nodes.length=n4 at *;go_enter Tryz.func177,Tryz.ntmps177
    go_wp2_with fail
    go_loopg [5] 1 (fun g i wr=>i = .int .i64 0 ∧ 0 < g+1 ∧ Aside (Ext w wr) ∧ wr.cell? ⟨w.heap.size,1,none⟩=some (.slice L.po n2 L.co))
    case atStart=>exact ⟨rfl,by omega,(show Aside _ from (show Ext w _ from exx)),by go_simp⟩
    case round=>
     obtain ⟨rfl,_,HE,HC⟩:=hrel
     go_wp2_with fail
     go_returns;exact ⟨rfl,HE.out⟩
  · obtain ⟨q,hq⟩:=get_list (E:=d.nodes) (j:=r.toNat) (by omega);obtain ⟨k,hk⟩:=get_list (E:=L.K) (j:=r.toNat) (by rw [H.out.kl];omega);obtain ⟨nb,no,hpn,hnb,hnc⟩:=H.out.node_cells (by omega);have gq:=(hnc _ q k hq hk).1;have hqa:d.nodeAt r.toNat=q:=by unfold Nd.Dia.nodeAt;rw [hq];rfl
    have e:rankO d r=if Hp.index d.order q.1 < 0 then (d.order.length:Int) else Hp.index d.order q.1:=by unfold rankO;rw [if_neg h0,hqa]
    have HRK:=Lib.hid e;generalize rankO d r=R at *;clear e hqa hq hk hnc;obtain ⟨m,rfl⟩:∃ m:Nat,r=(m:Int):=⟨r.toNat,by omega⟩
    rw [Int.toNat_natCast] at gq;have hm:m < d.nodes.length:=by omega
    have tk:decide (0 ≤ (m:Int))=true:=decide_eq_true (by omega);clear h0 hr;generalize q.1=q1 at *;clear q;generalize hN:d.order.length=n2 at *;have HN:=Lib.hid hN;clear hN;generalize d.sizes.length=n1 at *;generalize d.ends.length=n3 at *;generalize d.nodes.length=n4 at *;rw [hpn];go_enter Tryz.func177,Tryz.ntmps177
    go_wp2_with fail
    go_loopg [5] n2 (fun g i wr=>∃ j:Nat,j ≤ n2 ∧ n2-j ≤ g ∧ i = .int .i64 j ∧ Aside (Ext w wr) ∧ wr.cell? ⟨w.heap.size,1,none⟩=some (.slice L.po n2 L.co) ∧ wr.cell? ⟨w.heap.size,3,none⟩=some (.slice (some ⟨nb,no,none⟩) n4 L.cn) ∧ Aside (∀ m y,m < j → Hp.rd d.order m=some y → y ≠ q1))
    case atStart=>exact ⟨0,by omega,by omega,rfl,(show Aside _ from (show Ext w _ from exx)),by go_simp,by go_simp,(show Aside _ from fun m y hm=>absurd hm (Nat.not_lt_zero _))⟩
    case round=>
     obtain ⟨j,hj,hg,rfl,HE,HC,HC3,HA⟩:=hrel
     by_cases hlt:j < n2
     · obtain ⟨y,hy⟩:=rd_get (l:=d.order) (j:=j) (by rw [HN.out];exact hlt);obtain ⟨b,o,hpo,hb,hc⟩:=(H.out.o.ext HE.out).cells (by rw [HN.out];omega);rw [hpo] at HC;have g1:=hc j y hy;have g2:=(HE.out.cell hnb _).trans gq;have tk1:decide ((j:Int) < (n2:Int))=true:=decide_eq_true (by omega);have HY:=Lib.hid hy;clear hc hy
       by_cases he:y=q1
       · subst he;have e:Hp.index d.order y=(j:Int):=index_at (HA.out) HY.out;have HEQ:=Lib.hid e;clear e
         go_wp2_with fail
         go_region_o
         go_wp2;go_returns;refine ⟨?_,HE.out.drew⟩;rw [HRK.out,HEQ.out,if_neg (by omega)];rfl
       · have t0:(y == q1)=false:=by simpa using he
         have HNE:=Lib.hid he;clear he
         go_wp2_with fail
         go_region_o
         go_wp2
         go_roundg (n2-(j+1))
         case measure=>omega
         case rel=>
          refine ⟨j+1,by omega,by omega,by go_num,(show Aside _ from HE.out.drew),(by rw [hpo];go_simp),(by go_simp),(show Aside _ from fun m y' hm hy=>?_)⟩
          by_cases e:m=j
          · subst e;rw [HY.out] at hy
            cases hy
            exact HNE.out
          · exact HA.out m y' (by omega) hy
     · have hjn:j=n2:=by omega
       subst hjn;have tk1:decide ((j:Int) < (j:Int))=false:=decide_eq_false (by omega);have e:Hp.index d.order q1 = -1:=index_none (by rw [HN.out];exact HA.out);have HEQ:=Lib.hid e;clear e
       go_wp2_with fail
       go_returns;refine ⟨?_,HE.out⟩;rw [HRK.out,HEQ.out,if_pos (by omega)];rfl
theorem But.over {l l':List Nat} {a b c:World} (h:But l a b) (k:But l' b c) (hl:∀ x ∈ l',x ∈ l ∨ a.heap.size ≤ x):But l a c:=
 ⟨k.os.trans h.os,k.tape.trans h.tape,k.output.trans h.output,Nat.le_trans h.size k.size,fun i hi hn=>(k.block i (Nat.lt_of_lt_of_le hi h.size) (fun hm=>by
  rcases hl i hm with hm | hm
  · exact hn hm
  · omega)).trans (h.block i hi hn)⟩
structure DoAt (wb w:World) (d0 d:Hd) (S:Hp.Hs) (A:List Int) (p:Option Addr) (k:Nat):Prop extends HAt w d S where
 but0:But d0.own wb w
 own0:∀ b ∈ d.own,b ∈ d0.own ∨ wb.heap.size ≤ b
 row:Row w 0 p k A
 n:∀ b o,p=some ⟨b,o,none⟩ → wb.heap.size ≤ b ∧ b ∉ d.own
 spn:∀ b o,d.sp=some ⟨b,o,none⟩ → b < wb.heap.size
 opn:∀ b o,d.op=some ⟨b,o,none⟩ → b < wb.heap.size
namespace DoAt
variable {wb w w':World} {d0 d:Hd} {S:Hp.Hs} {A:List Int} {p:Option Addr} {k:Nat}
theorem ext (h:DoAt wb w d0 d S A p k) (e:Ext w w'):DoAt wb w' d0 d S A p k:=
 { h with
   toHAt:=h.toHAt.ext e
   but0:=h.but0.ext e
   row:=h.row.ext e }
theorem turn (h:DoAt wb w d0 d S A p k) {S':Hp.Hs} {g cap:Nat} (hb:But d.own w w') (hA:HAt w' { d with gw:=g,cap:=cap } S') (hg:g=d.gw ∨ w.heap.size ≤ g):DoAt wb w' d0 { d with gw:=g,cap:=cap } S' A p k:=by
 have e0:=h.but0.size
 have own:∀ b ∈ ({ d with gw:=g,cap:=cap }:Hd).own,b ∈ d.own ∨ w.heap.size ≤ b:=fun b hb=>by
  simp only [Hd.own,List.mem_cons,List.not_mem_nil,or_false] at hb ⊢
  rcases hb with rfl | rfl | rfl
  · exact .inl (.inl rfl)
  · rcases hg with rfl | hg
    · exact .inl (.inr (.inl rfl))
    · exact .inr hg
  · exact .inl (.inr (.inr rfl))
 exact
  { toHAt:=hA
    but0:=h.but0.over hb h.own0
    own0:=fun b hb=>by
     rcases own b hb with hm | hm
     · exact h.own0 b hm
     · exact .inr (by omega)
    row:=h.row.but_ hb (fun b o e=>(h.n b o e).2)
    n:=fun b o e=>⟨(h.n b o e).1,fun hm=>by
     rcases own b hm with hm | hm
     · exact (h.n b o e).2 hm
     · have:=h.row.lt e;omega⟩
    spn:=h.spn
    opn:=h.opn }
theorem rowed (h:DoAt wb w d0 d S A p k) {l:List Nat} (hb:But l w w') (hl:∀ b ∈ l,wb.heap.size ≤ b ∧ b ∉ d.own):HAt w' d S ∧ But d0.own wb w':=by
 refine ⟨h.toHAt.but hb (fun hm=>(hl _ hm).2 d.hb_own) (fun hm=>(hl _ hm).2 d.gw_own) (fun hm=>(hl _ hm).2 d.gm_own) (fun b o e hm=>by have:=(hl b hm).1;have:=h.spn b o e;omega) (fun b o e hm=>by have:=(hl b hm).1;have:=h.opn b o e;omega), ?_⟩
 exact h.but0.over hb fun b hm=>.inr (hl b hm).1
theorem grow (h:DoAt wb w d0 d S A p k) {g cap:Nat} {row:Option Nat} {l:List Int} (hR:Row w' 0 (some ⟨g,0,none⟩) cap l) (hG:w.grownBy w' row) (hrow:∀ q,row=some q → p=some ⟨q,0,none⟩) (hg:p=some ⟨g,0,none⟩ ∨ g=w.heap.size) :
    DoAt wb w' d0 d S l (some ⟨g,0,none⟩) cap:=by
  have kb:But row.toList w w':=⟨hG.os,hG.tape,hG.output,hG.size,fun i hi hn=>hG.block i hi (fun e=>hn (by rw [← e];simp))⟩
  have own:=h.toHAt.own_lt;obtain ⟨a1,a2⟩:=h.rowed kb (fun x hx=>by
   have e:row=some x:=by simpa using hx
   exact h.n x 0 (hrow x e))
  exact
   { toHAt:=a1,but0:=a2,own0:=h.own0,row:=hR,spn:=h.spn,opn:=h.opn
     n:=fun b o e=>by
      cases e
      rcases hg with hg | hg
      · exact h.n g 0 hg
      · have:=h.but0.size;exact ⟨by omega,fun hm=>by have:=own g hm;omega⟩ }
theorem now (h:DoAt wb w d0 d S A p k) {S':Hp.Hs} (hN:Now w w' d S'):DoAt wb w' d0 d S' A p k:=h.turn (g:=d.gw) (cap:=d.cap) hN.but hN.toHAt (.inl rfl)
end DoAt
theorem Row.froz {w:World} {base c b j:Nat} {p:Option Addr} {l:List Int} (h:Row w base p c l) (hp:p=some ⟨b,0,none⟩):w.frozen? ⟨b,j,none⟩=false:=by
 rcases h.1.2 with ⟨e,_⟩ | ⟨g,cap',cur,e,_,hgb,_⟩
 · injection e with e1
   rw [hp] at e1
   cases e1
 · injection e with e1
   rw [hp] at e1
   cases e1
   simp [World.frozen?,hgb]
theorem Row.cell_ {w:World} {base c b j:Nat} {p:Option Addr} {l:List Int} {x:Int} (h:Row w base p c l) (hp:p=some ⟨b,0,none⟩) (hx:Hp.rd l j=some x):w.cell? ⟨b,j,none⟩=some (.int .i64 x):=by
 subst hp
 have:=h.at_.cell_ hx
 rwa [Nat.zero_add] at this
end Go.Proofs.YtdokmmhjmclmnaaGreat
