/-
  Part 31 of a proof: LD4 PD1 LD6 LH17 LD7 LD8.
-/
import Derived.Test.YtdokmmhjmclmnaaGreatMN01
import Derived.Test.YtdokmmhjmclmnaaGreatMN19
import Derived.Test.YtdokmmhjmclmnaaGreatMN22
import Derived.Test.YtdokmmhjmclmnaaGreatMN23
import Derived.Test.YtdokmmhjmclmnaaGreatMN30
set_option linter.unusedSimpArgs false
set_option linter.unusedVariables false
set_option linter.unusedSectionVars false
set_option linter.unnecessarySimpa false
namespace Go.Proofs.YtdokmmhjmclmnaaGreat
open Go.RowKit Go.Maps
theorem zip_nodeC_get {N:List (Int × List Int)} {K:List (Option Addr × Nat)} {j:Nat} {q:Int × List Int} {k:Option Addr × Nat} (h:N[j]? = some q) (hk:K[j]? = some k):(List.zipWith nodeC N K)[j]? = some [.int .i64 q.1,.slice k.1 q.2.length k.2]:=by
 rw [List.getElem?_zipWith,h,hk]
 rfl
theorem zip_nodeC_len {N:List (Int × List Int)} {K:List (Option Addr × Nat)} (h:K.length=N.length):(List.zipWith nodeC N K).length=N.length:=by
 rw [List.length_zipWith,h,Nat.min_self]
theorem DgRd.node_cells {w:World} {L:DgL} {z o:List Int} {E:List (Int × Int)} {N:List (Int × List Int)} (h:DgRd w L z o E N) (h0:0 < N.length):∃ b o,L.pn=some ⟨b,o,none⟩ ∧ b < w.heap.size ∧
    ∀ (j:Nat) (q:Int × List Int) (k:Option Addr × Nat),N[j]? = some q → L.K[j]? = some k → w.cell? ⟨b,o+j * 2,none⟩=some (.int .i64 q.1) ∧ w.cell? ⟨b,o+j * 2+1,none⟩=some (.slice k.1 q.2.length k.2):=by
  obtain ⟨b,o',e,hb,hc⟩:=h.n.cells (by rw [zip_nodeC_len h.kl];exact h0);refine ⟨b,o',e,hb,fun j q k hq hk=>⟨?_, ?_⟩⟩
  · exact hc j _ 0 _ (zip_nodeC_get hq hk) rfl
  · exact hc j _ 1 _ (zip_nodeC_get hq hk) rfl
set_option maxRecDepth 100000 in
set_option maxHeartbeats 8000000 in
theorem dEqual_loop {w:World} {L M:DgL} {z o:List Int} {E:List (Int × Int)} {N N':List (Int × List Int)} {x:Int} (h:DgRd w L z o E N) (k:DgRd w M z o E N') (hne:N.length=N'.length) :
    Calls Tryz.prog 27 #[.agg #[.slice L.ps z.length L.cs,.slice L.po o.length L.co,.slice L.pe E.length L.ce,.slice L.pn N.length L.cn,.int .i64 x],.agg #[.slice M.ps z.length M.cs,.slice M.po o.length M.co,.slice M.pe E.length M.ce,.slice M.pn N.length M.cn,.int .i64 x]] w fun e w'=>e = .returned (.bool (decide (N=N'))) ∧ Ext w w':=by
  have H:=Lib.hid h;have K:=Lib.hid k;have H1:=Lib.hid (fun W (hE:Ext w W)=>dSame_is (b:=true) (by simp) (H.out.s.ext hE) (K.out.s.ext hE));have H2:=Lib.hid (fun W (hE:Ext w W)=>dSame_is (b:=true) (by simp) (H.out.o.ext hE) (K.out.o.ext hE));have H3:=Lib.hid (fun W (hE:Ext w W)=>by have:=dAlike_any (H.out.e.ext hE) (K.out.e.ext hE);rw [decide_eq_true (rfl:E=E)] at this;exact this);have l1:=h.s.le;have l2:=h.o.le;have l3:=h.e.le;have l4:=h.n.le;have l4':=k.n.le;have c4:=h.n.cap;have c4':=k.n.cap;rw [List.length_map] at l3;rw [zip_nodeC_len h.kl] at l4;rw [zip_nodeC_len k.kl,← hne] at l4';have HK:=Lib.hid h.kl;have HK':=Lib.hid k.kl;have HM:=Lib.hid hne;clear h k hne;generalize hL:N.length=n at l4 l4' ⊢;have HL:=Lib.hid hL;generalize z.length=nz at *;generalize o.length=no at *;generalize E.length=ne at *;clear hL;have mixed:Tryz.prog.follows .mixedOrders=true:=by kernel_rfl
  go_enter Tryz.func27,Tryz.ntmps27;go_upto_region 3 with (first | (have _t:=hb1;go_at_call 24;refine (H2.out _ (exx)).mono ?_;rintro e w2 ⟨rfl,hb2⟩;obtain ⟨hc2,hf2,hs2⟩:=hb2.cells;have hz2_0:w.heap.size < w2.heap.size:=(by have h:=hb2.le;(try simp at h);omega);have hc2_0:=hb2.cell (b:=w.heap.size) (by first | omega | (simp;done) | (simp;omega));have hf2_0:=hb2.frozen (b:=w.heap.size) (by first | omega | (simp;done) | (simp;omega));have hz2_1:w.heap.size+1 < w2.heap.size:=(by have h:=hb2.le;(try simp at h);omega);have hc2_1:=hb2.cell (b:=w.heap.size+1) (by first | omega | (simp;done) | (simp;omega));have hf2_1:=hb2.frozen (b:=w.heap.size+1) (by first | omega | (simp;done) | (simp;omega))) | (go_at_call 24;refine (H1.out _ (exx)).mono ?_;rintro e w1 ⟨rfl,hb1⟩;obtain ⟨hc1,hf1,hs1⟩:=hb1.cells;have hz1_0:w.heap.size < w1.heap.size:=(by have h:=hb1.le;(try simp at h);omega);have hc1_0:=hb1.cell (b:=w.heap.size) (by first | omega | (simp;done) | (simp;omega));have hf1_0:=hb1.frozen (b:=w.heap.size) (by first | omega | (simp;done) | (simp;omega));have hz1_1:w.heap.size+1 < w1.heap.size:=(by have h:=hb1.le;(try simp at h);omega);have hc1_1:=hb1.cell (b:=w.heap.size+1) (by first | omega | (simp;done) | (simp;omega));have hf1_1:=hb1.frozen (b:=w.heap.size+1) (by first | omega | (simp;done) | (simp;omega))) | (go_at_call 86;refine (H3.out _ (exx)).mono ?_;rintro e w3 ⟨rfl,hb3⟩;obtain ⟨hc3,hf3,hs3⟩:=hb3.cells;have hz3_0:w.heap.size < w3.heap.size:=(by have h:=hb3.le;(try simp at h);omega);have hc3_0:=hb3.cell (b:=w.heap.size) (by first | omega | (simp;done) | (simp;omega));have hf3_0:=hb3.frozen (b:=w.heap.size) (by first | omega | (simp;done) | (simp;omega));have hz3_1:w.heap.size+1 < w3.heap.size:=(by have h:=hb3.le;(try simp at h);omega);have hc3_1:=hb3.cell (b:=w.heap.size+1) (by first | omega | (simp;done) | (simp;omega));have hf3_1:=hb3.frozen (b:=w.heap.size+1) (by first | omega | (simp;done) | (simp;omega))))
  refine cut_world (F:=fun W=>Hid (Ext w W) ∧ W.cell? ⟨w.heap.size,3,none⟩=some (.slice L.pn n L.cn) ∧ W.cell? ⟨w.heap.size+1,3,none⟩=some (.slice M.pn n M.cn)) ⟨Lib.hid (exx), ?a1, ?a2⟩ ?rest
  case a1=>go_simp
  case a2=>go_simp
  case rest=>
  intro w0 ⟨E0,c3,d3⟩;have H0:=Lib.hid (H.out.ext E0.out);have K0:=Lib.hid (K.out.ext E0.out);clear H K H1 H2 H3 hb1 hb2 hb3;generalize w.heap.size+1=bb at d3 ⊢;generalize w.heap.size=ba at c3 ⊢;have za:=cell_lt c3;have zb:=cell_lt d3
  go_wp2_with fail
  go_loopg [5] n (fun g i wr=>∃ j:Nat,j ≤ n ∧ n-j ≤ g ∧ i = .int .i64 j ∧ Aside (Ext w0 wr) ∧ Aside (∀ i,i < j → N[i]? = N'[i]?))
  case atStart=>exact ⟨0,Nat.zero_le _,by omega,rfl,Ext.refl _,fun m hm=>absurd hm (Nat.not_lt_zero _)⟩
  case round=>
   obtain ⟨j,hj,hg,rfl,HE,HA⟩:=hrel;have c3w:=(HE.out.cell za 3).trans c3;have d3w:=(HE.out.cell zb 3).trans d3;have zar:=Nat.lt_of_lt_of_le za HE.out.le;have zbr:=Nat.lt_of_lt_of_le zb HE.out.le
   by_cases hlt:j < n
   · obtain ⟨⟨v,ks⟩,hf⟩:=get_list (E:=N) (j:=j) (by rw [HL.out];exact hlt);obtain ⟨⟨v',ks'⟩,hf'⟩:=get_list (E:=N') (j:=j) (by rw [← HM.out,HL.out];exact hlt);obtain ⟨⟨q1,q2⟩,hq⟩:=get_list (E:=L.K) (j:=j) (by rw [HK.out,HL.out];exact hlt);obtain ⟨⟨q1',q2'⟩,hq'⟩:=get_list (E:=M.K) (j:=j) (by rw [HK'.out,← HM.out,HL.out];exact hlt);have H4:=Lib.hid (H0.out.ext HE.out);have K4:=Lib.hid (K0.out.ext HE.out);obtain ⟨b,oo,hpn,hb,hc⟩:=H4.out.node_cells (by rw [HL.out];omega);obtain ⟨b',oo',hpn',hb',hc'⟩:=K4.out.node_cells (by rw [← HM.out,HL.out];omega);rw [hpn] at c3w;rw [hpn'] at d3w;obtain ⟨g1,g2⟩:=hc j _ _ hf hq;obtain ⟨k1,k2⟩:=hc' j _ _ hf' hq';simp only at g1 g2 k1 k2;have SK:=Lib.hid (H4.out.ks j _ _ hf hq);have SK':=Lib.hid (K4.out.ks j _ _ hf' hq');obtain ⟨bs,hbs⟩:∃ bs,decide (ks=ks')=bs:=⟨_,rfl⟩
     have SM:=Lib.hid (fun W (hE:Ext wr W)=>dSame_is hbs (SK.out.ext hE) (SK'.out.ext hE));simp only at SM;have HBS:=Lib.hid hbs;have HF:=Lib.hid hf;have HF':=Lib.hid hf';have tk:decide ((j:Int) < (n:Int))=true:=decide_eq_true (by omega);clear hf hc hf' hc' hq hq' SK SK' hbs hpn hpn';have e:∀ (v1 v2:Int) (k1 k2:List Int),(v1,k1) ≠ (v2,k2) → N[j]? = some (v1,k1) → N'[j]? = some (v2,k2) → decide (N=N')=false:=fun v1 v2 k1 k2 hne e1 e2=>by
      apply decide_eq_false;rintro rfl;rw [e1] at e2;exact hne (Option.some.inj e2)
     have EE:=Lib.hid e;clear e
     by_cases he:v=v'
     · subst he
       go_wp2_with fail
       have PR18:=Lib.hid (fun (ww:World) (hSw:Ext wr ww)=>And.intro ((hSw.cell zar 3).trans c3w) (And.intro ((hSw.cell zbr 3).trans d3w) (And.intro ((hSw.cell hb (oo+j * 2)).trans g1) (And.intro ((hSw.cell hb' (oo'+j * 2)).trans k1) (And.intro ((hSw.cell hb (oo+j * 2+1)).trans g2) ((hSw.cell hb' (oo'+j * 2+1)).trans k2))))));refine wp_region_seq (S:=fun W=>Ext wr W) (R:=Ext) (by kernel_rfl) Ext.refl ?_ ?_
       · exact exx
       refine' tkL 0 rfl ?h0_1039 ?_
       case h0_1039=>(intro w q;obtain ⟨c3',d3',g1',k1',g2',k2'⟩:=PR18.out w q;go_simp;try with_reducible rfl)
       refine layy ?_;refine' tkL 1 rfl ?h1_1040 ?_
       case h1_1040=>(intro w q;obtain ⟨c3',d3',g1',k1',g2',k2'⟩:=PR18.out w q;go_simp;try with_reducible rfl)
       refine layy ?_;refine' tkL 2 rfl ?h2_1041 ?_
       case h2_1041=>(intro w q;obtain ⟨c3',d3',g1',k1',g2',k2'⟩:=PR18.out w q;go_simp;try with_reducible rfl)
       refine layy ?_;refine' tkL 3 rfl ?h3_1042 ?_
       case h3_1042=>(intro w q;obtain ⟨c3',d3',g1',k1',g2',k2'⟩:=PR18.out w q;go_simp;try with_reducible rfl)
       refine layy ?_;refine' tkL 4 rfl ?h4_1043 ?_
       case h4_1043=>(intro w q;obtain ⟨c3',d3',g1',k1',g2',k2'⟩:=PR18.out w q;go_simp;try with_reducible rfl)
       refine layy ?_;refine' tkL 5 rfl ?h5_1044 ?_
       case h5_1044=>(intro w q;obtain ⟨c3',d3',g1',k1',g2',k2'⟩:=PR18.out w q;go_simp;try with_reducible rfl)
       refine layy ?_;refine' tkL 6 rfl ?h6_1045 ?_
       case h6_1045=>(intro w q;obtain ⟨c3',d3',g1',k1',g2',k2'⟩:=PR18.out w q;go_simp;try with_reducible rfl)
       refine layy ?_;refine' tkL 7 rfl ?h7_1046 ?_
       case h7_1046=>(intro w q;obtain ⟨c3',d3',g1',k1',g2',k2'⟩:=PR18.out w q;go_simp;try with_reducible rfl)
       refine layy ?_;refine' tkL 8 rfl ?h8_1047 ?_
       case h8_1047=>(intro w q;obtain ⟨c3',d3',g1',k1',g2',k2'⟩:=PR18.out w q;go_simp;try with_reducible rfl)
       refine layy ?_;refine' tkL 9 rfl ?h9_1048 ?_
       case h9_1048=>(intro w q;obtain ⟨c3',d3',g1',k1',g2',k2'⟩:=PR18.out w q;go_simp;try with_reducible rfl)
       refine layy ?_;refine' tkL 10 rfl ?h10_1049 ?_
       case h10_1049=>(intro w q;obtain ⟨c3',d3',g1',k1',g2',k2'⟩:=PR18.out w q;go_simp;try with_reducible rfl)
       refine layy ?_;refine' tkL 11 rfl ?h11_1050 ?_
       case h11_1050=>(intro w q;obtain ⟨c3',d3',g1',k1',g2',k2'⟩:=PR18.out w q;go_simp;try with_reducible rfl)
       refine layy ?_;refine' tkL 12 rfl ?h12_1051 ?_
       case h12_1051=>(intro w q;obtain ⟨c3',d3',g1',k1',g2',k2'⟩:=PR18.out w q;go_simp;try with_reducible rfl)
       refine layy ?_;refine' tkL 13 rfl ?h13_1052 ?_
       case h13_1052=>(intro w q;obtain ⟨c3',d3',g1',k1',g2',k2'⟩:=PR18.out w q;go_simp;try with_reducible rfl)
       refine layy ?_;refine' tkL 14 rfl ?h14_1053 ?_
       case h14_1053=>(intro w q;obtain ⟨c3',d3',g1',k1',g2',k2'⟩:=PR18.out w q;go_simp;try with_reducible rfl)
       refine layy ?_;refine' tkL 15 rfl ?h15_1054 ?_
       case h15_1054=>(intro w q;obtain ⟨c3',d3',g1',k1',g2',k2'⟩:=PR18.out w q;go_simp;try with_reducible rfl)
       refine layy ?_;refine' tkL 16 rfl ?h16_1055 ?_
       case h16_1055=>(intro w q;obtain ⟨c3',d3',g1',k1',g2',k2'⟩:=PR18.out w q;go_simp;try with_reducible rfl)
       refine layy ?_;refine' tkL 17 rfl ?h17_1056 ?_
       case h17_1056=>(intro w q;obtain ⟨c3',d3',g1',k1',g2',k2'⟩:=PR18.out w q;go_simp;try with_reducible rfl)
       refine layy ?_;refine' tkL 18 rfl ?h18_1057 ?_
       case h18_1057=>(intro w q;obtain ⟨c3',d3',g1',k1',g2',k2'⟩:=PR18.out w q;go_simp;try with_reducible rfl)
       refine layy ?_;refine' tkL 19 rfl ?h19_1058 ?_
       case h19_1058=>(intro w q;obtain ⟨c3',d3',g1',k1',g2',k2'⟩:=PR18.out w q;go_simp;try with_reducible rfl)
       refine layy ?_;refine' tkL 20 rfl ?h20_1059 ?_
       case h20_1059=>(intro w q;obtain ⟨c3',d3',g1',k1',g2',k2'⟩:=PR18.out w q;go_simp;try with_reducible rfl)
       refine layy ?_;refine' tkL 21 rfl ?h21_1060 ?_
       case h21_1060=>(intro w q;obtain ⟨c3',d3',g1',k1',g2',k2'⟩:=PR18.out w q;go_simp;try with_reducible rfl)
       refine layy ?_;refine' tkL 22 rfl ?h22_1061 ?_
       case h22_1061=>(intro w q;obtain ⟨c3',d3',g1',k1',g2',k2'⟩:=PR18.out w q;go_simp;try with_reducible rfl)
       refine layy ?_;refine' tkL 23 rfl ?h23_1062 ?_
       case h23_1062=>(intro w q;obtain ⟨c3',d3',g1',k1',g2',k2'⟩:=PR18.out w q;go_simp;try with_reducible rfl)
       refine layy ?_;refine' tkL 24 rfl ?h24_1063 ?_
       case h24_1063=>(intro w q;obtain ⟨c3',d3',g1',k1',g2',k2'⟩:=PR18.out w q;go_simp;try with_reducible rfl)
       refine layy ?_;refine' tkL 25 rfl ?h25_1064 ?_
       case h25_1064=>(intro w q;obtain ⟨c3',d3',g1',k1',g2',k2'⟩:=PR18.out w q;go_simp;try with_reducible rfl)
       refine layy ?_;refine' tkR 26 (v:=.bool bs) rfl (Or.inr ⟨by rfl,24,_, ?hx26_1065, ?hy26_1065⟩) ?rest26_1065
       case hx26_1065=>(intro w hSw;go_simp;try with_reducible rfl)
       case hy26_1065=>exact fun w hE=>(SM.out _ hE).mono (fun _ _ h=>⟨h.1,h.2,Ext.trans hE h.2⟩)
       refine layy ?_;refine' tkL 27 rfl ?h27_1066 ?_
       case h27_1066=>(intro w q;obtain ⟨c3',d3',g1',k1',g2',k2'⟩:=PR18.out w q;go_simp;try with_reducible rfl)
       refine layy ?_;refine' tkL 28 rfl ?h28_1067 ?_
       case h28_1067=>(intro w q;obtain ⟨c3',d3',g1',k1',g2',k2'⟩:=PR18.out w q;go_simp;try with_reducible rfl)
       refine layy ?_;refine wpAnyR_done (by kernel_rfl) ?_ _;intro x1 _ Ex1
       cases bs with
       | true=>
        go_wp2_with fail
        go_roundg (n-(j+1))
        case measure=>omega
        case rel=>
         refine ⟨j+1,by omega,by omega,by go_num,(show Aside _ from HE.out.trans Ex1),(show Aside _ from fun i hi=>?_)⟩
         by_cases e:i=j
         · subst e;rw [HF.out,HF'.out];have:=of_decide_eq_true HBS.out;rw [this]
         · exact HA.out i (by omega)
       | false=>
        go_wp2_with fail
        go_returns;rw [EE.out _ _ _ _ (fun e=>(of_decide_eq_false HBS.out) (Prod.mk.inj e).2) HF.out HF'.out];exact ⟨rfl,(E0.out.trans HE.out).trans Ex1⟩
     · have e1:(v != v')=true:=by simpa using he
       go_wp2_with fail
       have PR19:=Lib.hid (fun (ww:World) (hSw:Ext wr ww)=>And.intro ((hSw.cell zar 3).trans c3w) (And.intro ((hSw.cell zbr 3).trans d3w) (And.intro ((hSw.cell hb (oo+j * 2)).trans g1) ((hSw.cell hb' (oo'+j * 2)).trans k1))));refine wp_region_seq (S:=fun W=>Ext wr W) (R:=Ext) (by kernel_rfl) Ext.refl ?_ ?_
       · exact exx
       refine' tkL 0 rfl ?h0_1068 ?_
       case h0_1068=>(intro w q;obtain ⟨c3',d3',g1',k1'⟩:=PR19.out w q;go_simp;try with_reducible rfl)
       refine layy ?_;refine' tkL 1 rfl ?h1_1069 ?_
       case h1_1069=>(intro w q;obtain ⟨c3',d3',g1',k1'⟩:=PR19.out w q;go_simp;try with_reducible rfl)
       refine layy ?_;refine' tkL 2 rfl ?h2_1070 ?_
       case h2_1070=>(intro w q;obtain ⟨c3',d3',g1',k1'⟩:=PR19.out w q;go_simp;try with_reducible rfl)
       refine layy ?_;refine' tkL 3 rfl ?h3_1071 ?_
       case h3_1071=>(intro w q;obtain ⟨c3',d3',g1',k1'⟩:=PR19.out w q;go_simp;try with_reducible rfl)
       refine layy ?_;refine' tkL 4 rfl ?h4_1072 ?_
       case h4_1072=>(intro w q;obtain ⟨c3',d3',g1',k1'⟩:=PR19.out w q;go_simp;try with_reducible rfl)
       refine layy ?_;refine' tkL 5 rfl ?h5_1073 ?_
       case h5_1073=>(intro w q;obtain ⟨c3',d3',g1',k1'⟩:=PR19.out w q;go_simp;try with_reducible rfl)
       refine layy ?_;refine' tkL 6 rfl ?h6_1074 ?_
       case h6_1074=>(intro w q;obtain ⟨c3',d3',g1',k1'⟩:=PR19.out w q;go_simp;try with_reducible rfl)
       refine layy ?_;refine' tkL 7 rfl ?h7_1075 ?_
       case h7_1075=>(intro w q;obtain ⟨c3',d3',g1',k1'⟩:=PR19.out w q;go_simp;try with_reducible rfl)
       refine layy ?_;refine' tkL 8 rfl ?h8_1076 ?_
       case h8_1076=>(intro w q;obtain ⟨c3',d3',g1',k1'⟩:=PR19.out w q;go_simp;try with_reducible rfl)
       refine layy ?_;refine' tkL 9 rfl ?h9_1077 ?_
       case h9_1077=>(intro w q;obtain ⟨c3',d3',g1',k1'⟩:=PR19.out w q;go_simp;try with_reducible rfl)
       refine layy ?_;refine' tkL 10 rfl ?h10_1078 ?_
       case h10_1078=>(intro w q;obtain ⟨c3',d3',g1',k1'⟩:=PR19.out w q;go_simp;try with_reducible rfl)
       refine layy ?_;refine' tkL 11 rfl ?h11_1079 ?_
       case h11_1079=>(intro w q;obtain ⟨c3',d3',g1',k1'⟩:=PR19.out w q;go_simp;try with_reducible rfl)
       refine layy ?_;refine' tkL 12 rfl ?h12_1080 ?_
       case h12_1080=>(intro w q;obtain ⟨c3',d3',g1',k1'⟩:=PR19.out w q;go_simp;try with_reducible rfl)
       refine layy ?_;refine' tkL 13 rfl ?h13_1081 ?_
       case h13_1081=>(intro w q;obtain ⟨c3',d3',g1',k1'⟩:=PR19.out w q;go_simp;try with_reducible rfl)
       refine layy ?_;refine' tkR 14 (v:=undef) rfl (Or.inl (Or.inr ⟨by rfl,rfl⟩)) ?rest14_1082;refine layy ?_;refine' tkR 15 (v:=undef) rfl (Or.inl (Or.inr ⟨by rfl,rfl⟩)) ?rest15_1083;refine layy ?_;refine' tkR 16 (v:=undef) rfl (Or.inl (Or.inr ⟨by rfl,rfl⟩)) ?rest16_1084;refine layy ?_;refine' tkR 17 (v:=undef) rfl (Or.inl (Or.inr ⟨by rfl,rfl⟩)) ?rest17_1085;refine layy ?_;refine' tkR 18 (v:=undef) rfl (Or.inl (Or.inr ⟨by rfl,rfl⟩)) ?rest18_1086;refine layy ?_;refine' tkR 19 (v:=undef) rfl (Or.inl (Or.inr ⟨by rfl,rfl⟩)) ?rest19_1087;refine layy ?_;refine' tkR 20 (v:=undef) rfl (Or.inl (Or.inr ⟨by rfl,rfl⟩)) ?rest20_1088;refine layy ?_;refine' tkR 21 (v:=undef) rfl (Or.inl (Or.inr ⟨by rfl,rfl⟩)) ?rest21_1089;refine layy ?_;refine' tkR 22 (v:=undef) rfl (Or.inl (Or.inr ⟨by rfl,rfl⟩)) ?rest22_1090;refine layy ?_;refine' tkR 23 (v:=undef) rfl (Or.inl (Or.inr ⟨by rfl,rfl⟩)) ?rest23_1091;refine layy ?_;refine' tkR 24 (v:=undef) rfl (Or.inl (Or.inr ⟨by rfl,rfl⟩)) ?rest24_1092;refine layy ?_;refine' tkR 25 (v:=undef) rfl (Or.inl (Or.inr ⟨by rfl,rfl⟩)) ?rest25_1093;refine layy ?_;refine' tkR 26 (v:=undef) rfl (Or.inl (Or.inr ⟨by rfl,rfl⟩)) ?rest26_1094;refine layy ?_;refine' tkR 27 (v:=undef) rfl (Or.inl (Or.inr ⟨by rfl,rfl⟩)) ?rest27_1095;refine layy ?_;refine' tkL 28 rfl ?h28_1096 ?_
       case h28_1096=>(intro w q;obtain ⟨c3',d3',g1',k1'⟩:=PR19.out w q;go_simp;try with_reducible rfl)
       refine layy ?_;refine wpAnyR_done (by kernel_rfl) ?_ _;intro x1 _ Ex1
       go_wp2_with fail
       go_returns;rw [EE.out _ _ _ _ (fun e=>he (Prod.mk.inj e).1) HF.out HF'.out];exact ⟨rfl,(E0.out.trans HE.out).trans Ex1⟩
   · have:j=n:=by omega
     subst this;have tk:decide ((j:Int) < (j:Int))=false:=decide_eq_false (by omega)
     go_wp2_with fail
     go_returns;rw [decide_eq_true (list_eq_of_get HM.out (by rw [HL.out];exact HA.out))];exact ⟨rfl,E0.out.trans HE.out⟩
def cellOk (v:Int × Int):Bool:=if v.1=0 then Hp.within (-9999) 9999 v.2 else decide (v.1 ≤ 4) && decide (v.2=0)
def refB (r:Int) (below:Nat) (ne:Nat):Bool:=if 0 ≤ r then decide (r < below) else decide (-1-r < ne)
theorem refB_iff {d:Nd.Dia} {r:Int} {n:Nat}:refB r n d.ends.length=true ↔ d.Ref r n:=by
 unfold refB Nd.Dia.Ref
 split <;> simp <;> omega
def rankO (d:Nd.Dia) (r:Int):Int:=if r < 0 then d.order.length else if Hp.index d.order (d.nodeAt r.toNat).1 < 0 then d.order.length else Hp.index d.order (d.nodeAt r.toNat).1
theorem MapIAt.lookOk {P:Program} {w:World} {g:Nat} {M:List (Nat × Int)} {t:TypeId} (h:MapIAt P w g M) (hk:P.underlying 3=some (.int .i64)) (ht:P.underlying t=some (.map 3 3)) (hz:(zeroValue 3).run P w = .ok (.int .i64 0) w) {k:Nat} (hk2:(k:Int) ≤ 9223372036854775807) :
    (Instr.lookup t (.map (some g)) (.int .i64 k) true).run P w = .ok (.tuple #[.int .i64 ((getI k M).getD 0),.bool (getI k M).isSome]) w:=by
  have wf:(Lit.int .i64 k).wf=true:=WalkArith.wf_i64 (by omega);obtain ⟨v,ps,hrun,hv⟩:=h.owns.look_ok (int_keyed hk) ht hz (plainElem_int hk (by decide)) (keyOf_int_mk hk wf);obtain ⟨c,rfl,hc,hwc⟩:=plainElem_int_inv hk hv;rw [hrun];have e1:Maps.has (mapOfI M) (.int .i64 k)=(getI k M).isSome:=by
   cases hh:(getI k M).isSome with
   | true=>exact (has_mapOfI M _).2 ⟨k,rfl,hh⟩
   | false=>
    cases hq:Maps.has (mapOfI M) (.int .i64 k) with
    | false=>rfl
    | true=>
     obtain ⟨n,e,hn⟩:=(has_mapOfI M _).1 hq;injection e with _ e
     have:n=k:=by omega
     subst this;rw [hh] at hn
     cases hn
  have e2:c=(getI k M).getD 0:=by
   simp only [Prod.mk.injEq] at hc;have hat:=hc.1;rw [at_mapOfI] at hat
   cases hg:getI k M with
   | none=>
    rw [hg] at hat;simp only at hat;injection hat with hat
    injection hat with _ hat
    exact hat.symm
   | some v=>
    rw [hg] at hat;simp only at hat;injection hat with hat
    injection hat with _ hat
    exact hat.symm
  rw [e1,e2]
theorem cells2 {w:World} {b:Nat} {x y:Value} (h0:w.cell? ⟨b,0,none⟩=some x) (h1:w.cell? ⟨b,1,none⟩=some y):∀ (i:Nat) (v:Value),[x,y][i]? = some v → w.cell? ⟨b,i,none⟩=some v
 | 0,v,h=>by simp at h;rw [← h];exact h0
 | 1,v,h=>by simp at h;rw [← h];exact h1
 | i+2,v,h=>by simp at h
def FromPost (wb w:World) (i:Dd) (l0:List Nat) (D1:Hp.Dg) (x:Int) (K0:List (Nat × Nat)) (e:Ending) (w':World):Prop:=
 e = .returned (.int .i64 x) ∧ ∃ pe ce pn cn K,DgSt wb w' i D1 pe ce pn cn K ∧ But l0 w w' ∧ (∀ b ∈ i.dyn pe pn,b ∈ l0 ∨ w.heap.size ≤ b) ∧ ∀ b ∈ K.map Prod.fst,b ∈ K0.map Prod.fst ∨ w.heap.size ≤ b
def Dd.args (i:Dd) (a:Nat):Array Value:=#[.int .i64 a,.pointer (some ⟨i.kb,0,none⟩),.pointer (some ⟨i.hx,0,none⟩),.pointer (some ⟨i.gd,0,none⟩),.pointer (some ⟨i.fb,0,none⟩)]
set_option maxRecDepth 100000 in
theorem from_known {wb w:World} {i:Dd} {D:Hp.Dg} {pe pn:Option Addr} {ce cn a:Nat} {K:List (Nat × Nat)} {x:Int} (h:DgSt wb w i D pe ce pn cn K) (ha:a ≤ 1000000) (hk:getI a D.known=some x) :
    Calls Tryz.prog 81 (i.args a) w (FromPost wb w i (i.dyn pe pn) D x K):=by
  have H:=Lib.hid h;have k1:=h.k;have hlk:=h.map.lookOk (t:=119) Tryz.underlying3 Tryz.underlying119 (Tryz.zeroValue3 w) (k:=a) (by omega);rw [hk] at hlk;simp only [Option.getD_some,Option.isSome_some] at hlk;clear h hk;unfold Dd.args;go_enter Tryz.func81,Tryz.ntmps81
  go_wp2_with fail
  go_returns;exact ⟨rfl,pe,ce,pn,cn,K,H.out,But.refl _ _,fun b hb=>.inl hb,fun b hb=>.inl hb⟩
set_option maxRecDepth 100000 in
set_option maxHeartbeats 8000000 in
theorem from_end {wb w:World} {d:Hd} {S:Hp.Hs} {B:Nat} {L:List Hp.Tl} {ch:Nat → List Nat} {i:Dd} {D:Hp.Dg} {pe pn:Option Addr} {ce cn a:Nat} {K:List (Nat × Nat)} (hA:HAt wb d S) (hw:Hp.Wf S B L ch) (hb:d.hb=i.hb) (h:DgSt wb w i D pe ce pn cn K) (ha:a ∈ S.taken) (hk:getI a D.known=none) (he:Hp.isEnd (Hp.ow S.words a)=true) (hn:D.known.length ≤ 100000) (hne:D.ends.length ≤ 100000) :
    Calls Tryz.prog 81 (i.args a) w (FromPost wb w i (i.dyn pe pn) ⟨putI a (-((D.ends.length:Int)+1)) D.known,D.ends ++ [(Hp.ow S.words a-20,Hp.ow S.words (a+4))],D.nodes⟩ (-((D.ends.length:Int)+1)) K):=by
  have pa:=hw.part ha;have hhi:=hw.hi;obtain ⟨f,hf⟩:∃ f:Nat,Hp.ow S.words a=20+f:=by
   simp only [Hp.isEnd,Hp.within,Bool.and_eq_true,decide_eq_true_eq] at he;exact ⟨(Hp.ow S.words a-20).toNat,by omega⟩
  have AT:=Lib.hid (fun W (hE:Ext w W)=>At_end_f ((hA.ext h.ext).ext hE) hw ha hf he);rw [show Hp.ow S.words a-20=(f:Int) by omega];obtain ⟨v,hv⟩:∃ v,Hp.ow S.words (a+4)=v:=⟨_,rfl⟩
  rw [hv] at AT ⊢;rw [hb] at AT;obtain ⟨ne,hne'⟩:∃ ne,D.ends.length=ne:=⟨_,rfl⟩
  have H:=Lib.hid h;have k1:=h.k;have k2:=h.h;have z1:=cell_lt k1;have z2:=cell_lt k2;have hlk:=h.map.lookOk (t:=119) Tryz.underlying3 Tryz.underlying119 (Tryz.zeroValue3 w) (k:=a) (by omega);rw [hk] at hlk;simp only [Option.getD_none,Option.isSome_none] at hlk;have HN:=Lib.hid hn;have NE:=Lib.hid hne';rw [hne'] at hne ⊢;clear h hA hw hb hf he hv hk hn hne';unfold Dd.args;go_enter Tryz.func81,Tryz.ntmps81;go_upto_region 5 with (go_at_call 22;refine (AT.out _ (exx)).mono ?_;rintro e w1 ⟨rfl,hb1⟩)
  refine cut_world (F:=fun W=>Hid (Ext w W) ∧ W.cell? ⟨w1.heap.size,0,none⟩=some (.int .i64 (-1)) ∧ W.cell? ⟨w1.heap.size+1,0,none⟩=some (.int .u8 f) ∧ W.cell? ⟨w1.heap.size+1,1,none⟩=some (.int .i64 v)) ⟨Lib.hid (exx), ?a1, ?a2, ?a3⟩ ?rest
  case a1=>go_simp
  case a2=>go_simp
  case a3=>go_simp
  case rest=>
  intro w2 ⟨E2,g1,g2,g3⟩;have N:=Lib.hid (H.out.ext' E2.out);clear hb1 k1 k2 hlk z1 z2;generalize w1.heap.size+1=bv at g2 g3 ⊢;generalize w1.heap.size=bb at g1 ⊢;have d2:=N.out.d2;have f2:=N.out.z2;rw [NE.out] at d2;have zd:=cell_lt d2;have zv:=cell_lt g2;go_upto_region 7 with (at_builtin;refine wpList_append_N rfl _ _ 46 43 rfl (z:=.agg #[.int .u8 0,.int .i64 0]) (n:=2) (bytes:=16) Tryz.underlying46 (by kernel_rfl) rfl (by decide) (by decide) (m:=ne) (by rw [List.length_map,NE.out]) rfl rfl (N.out.er.ext (exx)) (y:=endC ((f:Int),v)) rfl (cells2 (by go_simp) (by go_simp)) (by simp [endC,Value.oneCell']) (by omega) ?_;intro g cap w3 row hR hG hrow hg hlt;have Na:=N.out.ext' (show Ext w2 (w2.alloc (.cells #[.int .u8 f,.int .i64 v] 43)) from exx);obtain ⟨q2,r2⟩:=Na.store2 hG hrow;have NB:=Lib.hid (Na.end_ (v:=((f:Int),v)) hR hG hrow hg hlt);rw [NE.out] at NB;have GI:=Lib.hid (show g ∈ blk pe ∨ w2.heap.size ≤ g from hg.imp (fun e=>by rw [e];simp [blk]) (fun e=>by rw [e];simp));clear Na hR hG hrow hg hlt)
  obtain ⟨N4,B4⟩:=NB.out;refine cut_world (F:=fun W=>Hid (DgSt wb W i { D with ends:=D.ends ++ [((f:Int),v)] } (some ⟨g,0,none⟩) cap pn cn K ∧ But (i.gd :: blk pe) (w2.alloc (.cells #[.int .u8 f,.int .i64 v] 43)) W)) (Lib.hid ⟨N4,B4⟩) ?_;intro w4 NN;clear NB N4 B4 q2 r2;have k4:=NN.out.1.k;have d4:=NN.out.1.d2;simp only [List.length_append,List.length_cons,List.length_nil,NE.out,Nat.zero_add] at d4;have w1':wrap64 (-((ne:Int)+1)) = -((ne:Int)+1):=IntWalk.wrap64_in _ ⟨by omega,by omega⟩;have w2':IntKind.i64.wrap (-((ne:Int)+1)) = -((ne:Int)+1):=IntWalk.i64_in _ ⟨by omega,by omega⟩;obtain ⟨w5,hup,hm5,ht5⟩:=NN.out.1.map.put (t:=119) Tryz.underlying3 Tryz.underlying119 (by have:=HN.out;unfold maxLen;simp only;omega) (a:=a) (x:=-((ne:Int)+1)) (by omega) (by omega) (by omega);have B5:But [i.gk] w4 w5:=(But.refl _ _).turned ht5 (.inl (by simp));have N5:=Lib.hid (NN.out.1.known_ B5 hm5);have hlk:=N5.out.map.look (t:=119) Tryz.underlying3 Tryz.underlying119 (Tryz.zeroValue3 w5) (k:=a) (by omega);rw [getI_put (M:=D.known) (H.out.map.up),if_pos rfl] at hlk;simp only [Option.getD_some] at hlk;have k5:=N5.out.k;have HB5:=Lib.hid B5;clear hm5 ht5 B5
  go_wp2_with fail
  go_returns;refine ⟨rfl,_,_,_,_,_,N5.out, ?_, ?_,fun b hb=>.inl hb⟩
  · have b1:But (i.dyn pe pn) w w2:=But.ofExt E2.out;have b2:But (i.dyn pe pn) w (w2.alloc (.cells #[.int .u8 f,.int .i64 v] 43)):=b1.alloc _;have b3:=b2.trans (NN.out.2.mono (l':=i.dyn pe pn) (fun x hx=>by
     rcases List.mem_cons.1 hx with rfl | hx
     · exact DgSt.gd_dyn _ _ _
     · exact DgSt.pe_dyn _ hx))
    exact b3.trans (HB5.out.mono (fun x hx=>by rw [List.mem_singleton.1 hx];exact DgSt.gk_dyn _ _ _))
  · intro b hb;simp only [Dd.dyn,blk,List.mem_cons,List.mem_append,List.not_mem_nil,or_false] at hb ⊢
    rcases hb with hb | hb | rfl | hb
    · exact .inl (.inl hb)
    · exact .inl (.inr (.inl hb))
    · rcases GI.out with h | h
      · exact .inl (.inr (.inr (.inl h)))
      · exact .inr (Nat.le_trans E2.out.le h)
    · exact .inl (.inr (.inr (.inr hb)))
theorem But.over {l l':List Nat} {a b c:World} (h:But l a b) (k:But l' b c) (hl:∀ x ∈ l',x ∈ l ∨ a.heap.size ≤ x):But l a c:=
 ⟨k.os.trans h.os,k.tape.trans h.tape,k.output.trans h.output,Nat.le_trans h.size k.size,fun i hi hn=>(k.block i (Nat.lt_of_lt_of_le hi h.size) (fun hm=>by
  rcases hl i hm with hm | hm
  · exact hn hm
  · omega)).trans (h.block i hi hn)⟩
structure DoAt (wb w:World) (d0 d:Hd) (S:Hp.Hs) (A:List Int) (p:Option Addr) (k:Nat):Prop extends HAt w d S where
 but0:But d0.own wb w
 own0:∀ b ∈ d.own,b ∈ d0.own ∨ wb.heap.size ≤ b
 row:Row w 0 p k A
 n:∀ b o,p=some ⟨b,o,none⟩ → wb.heap.size ≤ b ∧ b ∉ d.own
 spn:∀ b o,d.sp=some ⟨b,o,none⟩ → b < wb.heap.size
 opn:∀ b o,d.op=some ⟨b,o,none⟩ → b < wb.heap.size
namespace DoAt
variable {wb w w':World} {d0 d:Hd} {S:Hp.Hs} {A:List Int} {p:Option Addr} {k:Nat}
theorem ext (h:DoAt wb w d0 d S A p k) (e:Ext w w'):DoAt wb w' d0 d S A p k:=
 { h with
   toHAt:=h.toHAt.ext e
   but0:=h.but0.ext e
   row:=h.row.ext e }
theorem turn (h:DoAt wb w d0 d S A p k) {S':Hp.Hs} {g cap:Nat} (hb:But d.own w w') (hA:HAt w' { d with gw:=g,cap:=cap } S') (hg:g=d.gw ∨ w.heap.size ≤ g):DoAt wb w' d0 { d with gw:=g,cap:=cap } S' A p k:=by
 have e0:=h.but0.size
 have own:∀ b ∈ ({ d with gw:=g,cap:=cap }:Hd).own,b ∈ d.own ∨ w.heap.size ≤ b:=fun b hb=>by
  simp only [Hd.own,List.mem_cons,List.not_mem_nil,or_false] at hb ⊢
  rcases hb with rfl | rfl | rfl
  · exact .inl (.inl rfl)
  · rcases hg with rfl | hg
    · exact .inl (.inr (.inl rfl))
    · exact .inr hg
  · exact .inl (.inr (.inr rfl))
 exact
  { toHAt:=hA
    but0:=h.but0.over hb h.own0
    own0:=fun b hb=>by
     rcases own b hb with hm | hm
     · exact h.own0 b hm
     · exact .inr (by omega)
    row:=h.row.but_ hb (fun b o e=>(h.n b o e).2)
    n:=fun b o e=>⟨(h.n b o e).1,fun hm=>by
     rcases own b hm with hm | hm
     · exact (h.n b o e).2 hm
     · have:=h.row.lt e;omega⟩
    spn:=h.spn
    opn:=h.opn }
theorem rowed (h:DoAt wb w d0 d S A p k) {l:List Nat} (hb:But l w w') (hl:∀ b ∈ l,wb.heap.size ≤ b ∧ b ∉ d.own):HAt w' d S ∧ But d0.own wb w':=by
 refine ⟨h.toHAt.but hb (fun hm=>(hl _ hm).2 d.hb_own) (fun hm=>(hl _ hm).2 d.gw_own) (fun hm=>(hl _ hm).2 d.gm_own) (fun b o e hm=>by have:=(hl b hm).1;have:=h.spn b o e;omega) (fun b o e hm=>by have:=(hl b hm).1;have:=h.opn b o e;omega), ?_⟩
 exact h.but0.over hb fun b hm=>.inr (hl b hm).1
theorem grow (h:DoAt wb w d0 d S A p k) {g cap:Nat} {row:Option Nat} {l:List Int} (hR:Row w' 0 (some ⟨g,0,none⟩) cap l) (hG:w.grownBy w' row) (hrow:∀ q,row=some q → p=some ⟨q,0,none⟩) (hg:p=some ⟨g,0,none⟩ ∨ g=w.heap.size) :
    DoAt wb w' d0 d S l (some ⟨g,0,none⟩) cap:=by
  have kb:But row.toList w w':=⟨hG.os,hG.tape,hG.output,hG.size,fun i hi hn=>hG.block i hi (fun e=>hn (by rw [← e];simp))⟩
  have own:=h.toHAt.own_lt;obtain ⟨a1,a2⟩:=h.rowed kb (fun x hx=>by
   have e:row=some x:=by simpa using hx
   exact h.n x 0 (hrow x e))
  exact
   { toHAt:=a1,but0:=a2,own0:=h.own0,row:=hR,spn:=h.spn,opn:=h.opn
     n:=fun b o e=>by
      cases e
      rcases hg with hg | hg
      · exact h.n g 0 hg
      · have:=h.but0.size;exact ⟨by omega,fun hm=>by have:=own g hm;omega⟩ }
theorem now (h:DoAt wb w d0 d S A p k) {S':Hp.Hs} (hN:Now w w' d S'):DoAt wb w' d0 d S' A p k:=h.turn (g:=d.gw) (cap:=d.cap) hN.but hN.toHAt (.inl rfl)
end DoAt
theorem Row.froz {w:World} {base c b j:Nat} {p:Option Addr} {l:List Int} (h:Row w base p c l) (hp:p=some ⟨b,0,none⟩):w.frozen? ⟨b,j,none⟩=false:=by
 rcases h.1.2 with ⟨e,_⟩ | ⟨g,cap',cur,e,_,hgb,_⟩
 · injection e with e1
   rw [hp] at e1
   cases e1
 · injection e with e1
   rw [hp] at e1
   cases e1
   simp [World.frozen?,hgb]
theorem Row.cell_ {w:World} {base c b j:Nat} {p:Option Addr} {l:List Int} {x:Int} (h:Row w base p c l) (hp:p=some ⟨b,0,none⟩) (hx:Hp.rd l j=some x):w.cell? ⟨b,j,none⟩=some (.int .i64 x):=by
 subst hp
 have:=h.at_.cell_ hx
 rwa [Nat.zero_add] at this
open Go.RowKit Go.Maps
section
variable {P:Program} {ops:Array Oper} {Q:Exit → Act → World → Prop} {md:Region.Mode} {S:World → Prop}
theorem wpAnyE_call {oi:Oper} {fuel:Nat} {listed:Array Bool} {a:Act} {w:World} {f:FuncId} {args:Array Value} (i:Nat) (hi:ops[i]? = some oi) (hr:Region.ready md ops listed=[i]) (hw:Region.wanted oi (yielded ops a.tmps)=true)
    (hrun:(execOp a.eval oi).run P w = .ok (.enter f args) w) (hc:Calls P f args w fun e w'=>∃ v,e = .returned v ∧ S w' ∧ wpAnyR P md ops Q S Eq fuel (listed.setIfInBounds i true) (a.put oi.dst v) w'):wpAnyR P md ops Q S Eq (fuel+1) listed a w:=by
  intro w' r s;subst r;refine ⟨fun e=>(by rw [hr] at e;cases e),fun j hj=>?_⟩
  rw [hr] at hj;rw [List.mem_singleton.1 hj];unfold Go.wpOp;simp only [hi];rw [if_pos hw];refine .inl ?_;unfold Oper.wp;rw [hrun];refine hc.mono ?_;rintro e w'' ⟨v,rfl,hk⟩;exact hk
theorem wpAnyE_put {oi:Oper} {fuel:Nat} {listed:Array Bool} {a:Act} {w w':World} (i:Nat) (hi:ops[i]? = some oi) (hr:Region.ready md ops listed=[i]) (hw:Region.wanted oi (yielded ops a.tmps)=true)
    (hrun:(execOp a.eval oi).run P w = .ok .skip w') (hS:S w') (h:wpAnyR P md ops Q S Eq fuel (listed.setIfInBounds i true) (a.put oi.dst undef) w'):wpAnyR P md ops Q S Eq (fuel+1) listed a w:=by
  intro w2 r s;subst r;refine ⟨fun e=>(by rw [hr] at e;cases e),fun j hj=>?_⟩
  rw [hr] at hj;rw [List.mem_singleton.1 hj];unfold Go.wpOp;simp only [hi];rw [if_pos hw];refine .inl ?_;unfold Oper.wp;rw [hrun];exact ⟨hS,h⟩
end
theorem Hp.refs_snoc {f:Nat → Hp.Dg → Option (Int × Hp.Dg)}:∀ {l:List Nat} {k:Nat} {D D1 D2:Hp.Dg} {xs:List Int} {x:Int},Hp.refs f l D=some (xs,D1) → f k D1=some (x,D2) → Hp.refs f (l ++ [k]) D=some (xs ++ [x],D2)
 | [],k,D,D1,D2,xs,x,h,e=>by
  simp only [Hp.refs,Option.some.injEq,Prod.mk.injEq] at h;obtain ⟨rfl,rfl⟩:=h;simp [Hp.refs,e]
 | a :: r,k,D,D1,D2,xs,x,h,e=>by
  simp only [Hp.refs,Option.bind_eq_bind,Option.bind_eq_some_iff,Prod.exists,Option.some.injEq,Prod.mk.injEq] at h;obtain ⟨y,D3,e1,ys,D4,e2,rfl,rfl⟩:=h;have:=Hp.refs_snoc e2 e;simp [Hp.refs,e1,this]
structure KidSt (w wr:World) (i:Dd) (l0:List Nat) (K0:List (Nat × Nat)) (pe pn:Option Addr) (K:List (Nat × Nat)) (bb g c m:Nat) (v:Int) (R:List Int):Prop where
 but:But l0 w wr
 dyn:∀ b ∈ i.dyn pe pn,b ∈ l0 ∨ w.heap.size ≤ b
 kk:∀ b ∈ K.map Prod.fst,b ∈ K0.map Prod.fst ∨ w.heap.size ≤ b
 b0:wr.cell? ⟨bb,0,none⟩=some (.int .i64 v)
 b1:wr.cell? ⟨bb,1,none⟩=some (.slice (some ⟨g,0,none⟩) m c)
 row:Row wr 0 (some ⟨g,0,none⟩) c R
 new:w.heap.size ≤ bb ∧ w.heap.size ≤ g ∧ bb ≠ g
 far:∀ b,b=bb ∨ b=g → b ∉ i.fixed ∧ b ∉ i.dyn pe pn ∧ b ∉ K.map Prod.fst
theorem KidSt.ext {w wr w':World} {i:Dd} {l0:List Nat} {K0 K:List (Nat × Nat)} {pe pn:Option Addr} {bb g c m:Nat} {v:Int} {R:List Int} (h:KidSt w wr i l0 K0 pe pn K bb g c m v R) (k:Ext wr w'):KidSt w w' i l0 K0 pe pn K bb g c m v R:=
 { h with
   but:=h.but.ext k
   b0:=(k.cell (cell_lt h.b0) 0).trans h.b0
   b1:=(k.cell (cell_lt h.b0) 1).trans h.b1
   row:=Row.ext h.row k }
theorem KidSt.set_ {w wr:World} {i:Dd} {l0:List Nat} {K0 K:List (Nat × Nat)} {pe pn:Option Addr} {bb g c m j:Nat} {v x:Int} {R R':List Int} (h:KidSt w wr i l0 K0 pe pn K bb g c m v R) (hw:Hp.wr R j x=some R') (h1 : -9223372036854775808 ≤ x) (h2:x ≤ 9223372036854775807):KidSt w (wr.setCell ⟨g,j,none⟩ (.int .i64 x)) i l0 K0 pe pn K bb g c m v R':=by
 have k:But [g] wr (wr.setCell ⟨g,j,none⟩ (.int .i64 x)):=(But.refl _ _).setCell (.inl (by simp)) _
 have hb:bb ∉ [g]:=by simpa using h.new.2.2
 exact
  { h with
    but:=h.but.over k fun b hb=>by rw [List.mem_singleton.1 hb];exact .inr h.new.2.1
    b0:=(k.cell (cell_lt h.b0) hb 0).trans h.b0
    b1:=(k.cell (cell_lt h.b0) hb 1).trans h.b1
    row:=h.row.set rfl hw h1 h2 }
theorem KidSt.step {wb w wr w':World} {i:Dd} {l0:List Nat} {K0 K K':List (Nat × Nat)} {D':Hp.Dg} {pe pn pe' pn':Option Addr} {ce cn bb g c m:Nat} {v:Int} {R:List Int} (h:KidSt w wr i l0 K0 pe pn K bb g c m v R) (_:DgSt wb w' i D' pe' ce pn' cn K')
    (hb:But (i.dyn pe pn) wr w') (hd:∀ b ∈ i.dyn pe' pn',b ∈ i.dyn pe pn ∨ wr.heap.size ≤ b) (hk:∀ b ∈ K'.map Prod.fst,b ∈ K.map Prod.fst ∨ wr.heap.size ≤ b):KidSt w w' i l0 K0 pe' pn' K' bb g c m v R:=by
  have zb:=cell_lt h.b0;have zg:g < wr.heap.size:=h.row.lt rfl;have hw:=h.but.size;refine ⟨?_,fun b hm=>?_,fun b hm=>?_,(hb.cell zb (h.far bb (.inl rfl)).2.1 0).trans h.b0,(hb.cell zb (h.far bb (.inl rfl)).2.1 1).trans h.b1,h.row.but_ hb (fun b' o e=>by cases e;exact (h.far g (.inr rfl)).2.1),h.new,fun b hx=>⟨(h.far b hx).1,fun hm=>?_,fun hm=>?_⟩⟩
  · exact h.but.over hb fun x hx=>h.dyn x hx
  · rcases hd b hm with hm | hm
    · exact h.dyn b hm
    · exact .inr (by omega)
  · rcases hk b hm with hm | hm
    · exact h.kk b hm
    · exact .inr (by omega)
  · rcases hd b hm with hm | hm
    · exact (h.far b hx).2.1 hm
    · rcases hx with rfl | rfl <;> omega
  · rcases hk b hm with hm | hm
    · exact (h.far b hx).2.2 hm
    · rcases hx with rfl | rfl <;> omega
theorem Hp.refs_len {f:Nat → Hp.Dg → Option (Int × Hp.Dg)}:∀ {l:List Nat} {D D1:Hp.Dg} {xs:List Int},Hp.refs f l D=some (xs,D1) → xs.length=l.length
 | [],D,D1,xs,h=>by
  simp only [Hp.refs,Option.some.injEq,Prod.mk.injEq] at h;obtain ⟨rfl,rfl⟩:=h;rfl
 | a :: r,D,D1,xs,h=>by
  simp only [Hp.refs,Option.bind_eq_bind,Option.bind_eq_some_iff,Prod.exists,Option.some.injEq,Prod.mk.injEq] at h;obtain ⟨y,D3,e1,ys,D4,e2,rfl,rfl⟩:=h;simp [Hp.refs_len e2]
theorem kid_set {xs ks:List Int} {j:Nat} {x y:Int} (hx:xs.length=j) (hk:ks[j]? = some y):Hp.wr (xs ++ ks.drop j) j x=some ((xs ++ [x]) ++ ks.drop (j+1)):=by
 obtain ⟨hl,e⟩:=List.getElem?_eq_some_iff.1 hk
 unfold Hp.wr
 rw [if_pos (by simp;omega)]
 congr 1
 have e2:ks.drop j=ks[j] :: ks.drop (j+1):=List.drop_eq_getElem_cons hl
 rw [List.set_append_right _ _ (by omega),hx,Nat.sub_self,e2,List.set_cons_zero]
 simp
theorem kid_get {xs ks:List Int} {j:Nat} {y:Int} (hx:xs.length=j) (hk:ks[j]? = some y):Hp.rd (xs ++ ks.drop j) j=some y:=by
 unfold Hp.rd
 rw [List.getElem?_append_right (by omega),hx,Nat.sub_self,List.getElem?_drop,Nat.add_zero]
 exact hk
set_option maxRecDepth 100000 in
set_option maxHeartbeats 16000000 in
theorem from_node {wb w:World} {d:Hd} {S:Hp.Hs} {B:Nat} {L:List Hp.Tl} {ch:Nat → List Nat} {i:Dd} {D D1:Hp.Dg} {pe pn:Option Addr} {ce cn a n:Nat} {K:List (Nat × Nat)} {xs:List Int} (hA:HAt wb d S) (hw:Hp.Wf S B L ch) (hb:d.hb=i.hb) (h:DgSt wb w i D pe ce pn cn K) (hD:Hp.DgOk S D) (ha:a ∈ S.taken) (hk:getI a D.known=none) (he:Hp.isEnd (Hp.ow S.words a)=false)
    (hn:∀ k ∈ (Hp.fz (Hp.ow S.words) S.sizes a).map Int.toNat,(S.order.length:Int)-Hp.rk S k < n)
    (IH:∀ k,k ∈ S.taken → (S.order.length:Int)-Hp.rk S k < n → ∀ (w:World) (D D1:Hp.Dg) (pe pn:Option Addr) (ce cn:Nat) (K:List (Nat × Nat)) (x:Int),DgSt wb w i D pe ce pn cn K → Hp.DgOk S D → S.from' n k D=some (x,D1) → Calls Tryz.prog 81 (i.args k) w (FromPost wb w i (i.dyn pe pn) D1 x K))
    (hr:Hp.refs (S.from' n) ((Hp.fz (Hp.ow S.words) S.sizes a).map Int.toNat) D=some (xs,D1)) :
    Calls Tryz.prog 81 (i.args a) w (FromPost wb w i (i.dyn pe pn) ⟨putI a D1.nodes.length D1.known,D1.ends,D1.nodes ++ [(Hp.ow S.words a-1,xs)]⟩ D1.nodes.length K):=by
  have pa:=hw.part ha;have hhi:=hw.hi;have ht:=hw.tag_le ha;have hkid:=hw.kid_in ha he;have hkz:=hw.cells.kids a ha;have AT:=Lib.hid (fun W (hE:Ext w W)=>At_node_f ((hA.ext h.ext).ext hE) hw ha he);have hml:(Hp.fz (Hp.ow S.words) S.sizes a).length ≤ 20:=by rw [Hp.fz_length];omega
  obtain ⟨ks,hks⟩:∃ ks,Hp.fz (Hp.ow S.words) S.sizes a=ks:=⟨_,rfl⟩
  have hkz':∀ x ∈ ks,∃ b:Nat,x=b:=fun x hx=>by
   obtain ⟨b,_,e,_⟩:=hkz x (by simpa [Hp.kz,he,hks] using hx);exact ⟨b,e⟩
  rw [hks] at AT hml hkid hn hr;obtain ⟨v,hv⟩:∃ v,Hp.ow S.words a-1=v:=⟨_,rfl⟩
  have hv0:0 ≤ v:=by omega
  unfold NodePost at AT;rw [hv] at AT ⊢;rw [hb] at AT;obtain ⟨m,hm⟩:∃ m,ks.length=m:=⟨_,rfl⟩
  rw [hm] at AT hml;have H:=Lib.hid h;have k1:=h.k;have k2:=h.h;have z1:=cell_lt k1;have z2:=cell_lt k2;have hlk:=h.map.lookOk (t:=119) Tryz.underlying3 Tryz.underlying119 (Tryz.zeroValue3 w) (k:=a) (by omega);rw [hk] at hlk;simp only [Option.getD_none,Option.isSome_none] at hlk;have HM:=Lib.hid hm;have HKI:=Lib.hid hkid;have HKZ:=Lib.hid hkz';have HN:=Lib.hid hn;have HIH:=Lib.hid IH;have HR:=Lib.hid hr;have HD:=Lib.hid hD;have HW:=Lib.hid hw;have HBE:=Lib.hid hA.below;clear h hA hw hb he hv hk hn hm hks hkid hkz hkz' IH hr hD;unfold Dd.args;have mixed:Tryz.prog.follows .mixedOrders=true:=by kernel_rfl
  have tv:decide (v < 0)=false:=decide_eq_false (by omega);go_enter Tryz.func81,Tryz.ntmps81;go_upto_region 5 with (go_at_call 22;refine (AT.out _ (exx)).mono ?_;rintro e w1 ⟨g,c,rfl,hR,hb1⟩)
  have G1:=Lib.hid (show w.heap.size ≤ g ∧ g < w1.heap.size from ⟨hR.far rfl,hR.lt rfl⟩);refine cut_world (F:=fun W=>Hid (Ext w W ∧ Ext w1 W) ∧ W.cell? ⟨w1.heap.size,0,none⟩=some (.int .i64 v) ∧ W.cell? ⟨w1.heap.size,1,none⟩=some (.slice (some ⟨g,0,none⟩) m c)) ⟨Lib.hid ⟨exx,exx⟩, ?a1, ?a2⟩ ?rest
  case a1=>go_simp
  case a2=>go_simp
  case rest=>
  intro w2 ⟨E2,g1,g2⟩;have N:=Lib.hid (H.out.ext' E2.out.1);have BB:=Lib.hid (show w.heap.size ≤ w1.heap.size ∧ w1.heap.size ≠ g from ⟨hb1.le,fun e=>by have:=G1.out.2;omega⟩)
  have KS0:Hid (KidSt w w2 i (i.dyn pe pn) K pe pn K w1.heap.size g c m v ([] ++ ks.drop 0)):=Lib.hid
   { but:=But.ofExt E2.out.1
     dyn:=fun b hb=>.inl hb
     kk:=fun b hb=>.inl hb
     b0:=g1
     b1:=g2
     row:=Row.lower (hR.ext E2.out.2) (Nat.zero_le _)
     new:=⟨BB.out.1,G1.out.1,BB.out.2⟩
     far:=fun b hx=>by
      have hb2:w.heap.size ≤ b:=by
       rcases hx with rfl | rfl
       · exact BB.out.1
       · exact G1.out.1
      refine ⟨fun hm=>?_,fun hm=>?_,fun hm=>?_⟩
      · have:=(H.out.lo b (by simp only [List.mem_append];exact .inl (.inl hm))).2;omega
      · have:=(H.out.lo b (by simp only [List.mem_append];exact .inl (.inr hm))).2;omega
      · have:=(H.out.lo b (by simp only [List.mem_append];exact .inr hm)).2;omega }
  have E2w:=Lib.hid E2.out.1;have EW:=Lib.hid H.out.ext;clear hb1 k1 k2 hlk z1 z2 hR E2 G1 BB AT H;generalize w1.heap.size=bb at g1 g2 KS0 ⊢
  go_wp2_with fail
  go_loopg [50] m (fun g' iv wr=>∃ (j:Nat) (Dj:Hp.Dg) (xsj:List Int) (pe' pn':Option Addr) (ce' cn':Nat) (Kj:List (Nat × Nat)),j ≤ m ∧ m-j ≤ g' ∧ iv = .int .i64 j ∧ Hid (DgSt wb wr i Dj pe' ce' pn' cn' Kj) ∧ Hid (KidSt w wr i (i.dyn pe pn) K pe' pn' Kj bb g c m v (xsj ++ ks.drop j)) ∧ Aside (Hp.refs (S.from' n) ((ks.map Int.toNat).take j) D=some (xsj,Dj)) ∧ Aside (Hp.DgOk S Dj))
  case atStart=>exact ⟨0,D,[],pe,pn,ce,cn,K,Nat.zero_le _,by omega,rfl,N,KS0,rfl,HD.out⟩
  case round=>
   obtain ⟨j,Dj,xsj,pe',pn',ce',cn',Kj,hj,hg,rfl,NJ,KJ,RJ,DJ⟩:=hrel;clear g1 g2 N KS0
   by_cases hlt:j < m
   · have tk:decide ((j:Int) < (m:Int))=true:=decide_eq_true (by omega);obtain ⟨y,hy⟩:=get_list (E:=ks) (j:=j) (by rw [HM.out];exact hlt);obtain ⟨k,rfl⟩:=HKZ.out y (List.mem_of_getElem? hy);have hlj:(ks.map Int.toNat)[j]? = some k:=by rw [List.getElem?_map,hy];simp
     have hxl:xsj.length=j:=by
      rw [Hp.refs_len RJ.out,List.length_take,List.length_map,HM.out];omega
     have hkm:=List.mem_of_getElem? hlj;obtain ⟨hkt,hkr⟩:=HKI.out k hkm;obtain ⟨x,D2,ex,FT⟩:=Hp.from_total HW.out n k hkt (HN.out k hkm) Dj DJ.out;have CALL:=Lib.hid (HIH.out k hkt (HN.out k hkm));have hrd:=kid_get hxl hy;have b1:=KJ.out.b1;have gkk:=KJ.out.row.cell_ rfl hrd;have fgk:=KJ.out.row.froz (j:=j) rfl;have f4:=NJ.out.f;have zg:=cell_lt gkk;have zb:=cell_lt b1;have zf:=cell_lt f4;have kcap:=KJ.out.row.at_.cap;have kle:=KJ.out.row.at_.le;have HFT:=Lib.hid FT;have HEX:=Lib.hid ex;have HHY:=Lib.hid hy;have HLJ:=Lib.hid hlj;have HXL:=Lib.hid hxl;have hbk:(k:Int) ≤ 9223372036854775807:=(KJ.out.row.2 k (List.mem_of_getElem? hrd)).2;have hkl:(xsj ++ ks.drop j).length=m:=by
      have:=HM.out;simp only [List.length_append,List.length_drop];omega
     rw [hkl] at kle;have FF:=KJ.out.far;have gfb:g ≠ i.fb:=fun e=>(FF g (.inr rfl)).1 (by rw [e];simp [Dd.fixed])
     have gbb:g ≠ bb:=fun e=>KJ.out.new.2.2 e.symm
     clear hy hlj hxl hkm hkt hkr ex FT hrd FF hkl;unfold Dd.fv at f4
     go_wp2_with fail
     refine wp_region_seq (S:=fun W=>W.cell? ⟨bb,1,none⟩=some (.slice (some ⟨g,0,none⟩) m c) ∧ W.cell? ⟨i.fb,0,none⟩=some (.func (.func 81) #[] #[.pointer (some ⟨i.kb,0,none⟩),.pointer (some ⟨i.hx,0,none⟩),.pointer (some ⟨i.gd,0,none⟩),.pointer (some ⟨i.fb,0,none⟩)])) (R:=Eq) (by kernel_rfl) (fun _=>rfl) ?_ ?_
     · exact ⟨b1,f4⟩
     refine' wpAnyR_take (i:=0) (v:=?v0_1115) (fun _=>rfl) (fun _ _ _ h k=>h.trans k) rfl (by kernel_rfl) (by kernel_rfl) (by kernel_rfl) (fun _ _ _ h=>h) (Or.inl (Or.inl ⟨by rfl, ?hy0_1115⟩)) ?rest0_1115
     case hy0_1115=>(intro w hSw;(obtain ⟨s1,s2⟩:=hSw);go_simp;try with_reducible rfl)
     refine layy ?_;refine' wpAnyR_take (i:=1) (v:=?v1_1116) (fun _=>rfl) (fun _ _ _ h k=>h.trans k) rfl (by kernel_rfl) (by kernel_rfl) (by kernel_rfl) (fun _ _ _ h=>h) (Or.inl (Or.inl ⟨by rfl, ?hy1_1116⟩)) ?rest1_1116
     case hy1_1116=>(intro w hSw;(obtain ⟨s1,s2⟩:=hSw);go_simp;try with_reducible rfl)
     refine layy ?_;refine' wpAnyR_take (i:=2) (v:=?v2_1117) (fun _=>rfl) (fun _ _ _ h k=>h.trans k) rfl (by kernel_rfl) (by kernel_rfl) (by kernel_rfl) (fun _ _ _ h=>h) (Or.inl (Or.inl ⟨by rfl, ?hy2_1117⟩)) ?rest2_1117
     case hy2_1117=>(intro w hSw;(obtain ⟨s1,s2⟩:=hSw);go_simp;try with_reducible rfl)
     refine layy ?_;refine' wpAnyR_take (i:=3) (v:=?v3_1118) (fun _=>rfl) (fun _ _ _ h k=>h.trans k) rfl (by kernel_rfl) (by kernel_rfl) (by kernel_rfl) (fun _ _ _ h=>h) (Or.inl (Or.inl ⟨by rfl, ?hy3_1118⟩)) ?rest3_1118
     case hy3_1118=>(intro w hSw;(obtain ⟨s1,s2⟩:=hSw);go_simp;try with_reducible rfl)
     refine layy ?_;refine' wpAnyR_take (i:=4) (v:=?v4_1119) (fun _=>rfl) (fun _ _ _ h k=>h.trans k) rfl (by kernel_rfl) (by kernel_rfl) (by kernel_rfl) (fun _ _ _ h=>h) (Or.inl (Or.inl ⟨by rfl, ?hy4_1119⟩)) ?rest4_1119
     case hy4_1119=>(intro w hSw;(obtain ⟨s1,s2⟩:=hSw);go_simp;try with_reducible rfl)
     refine layy ?_;refine wpAnyE_call 5 (f:=81) (args:=i.args k) rfl (by kernel_rfl) (by rfl) ?run5 ?call5
     case run5=>
      have s2:=f4;unfold Dd.args;go_simp
     refine (CALL.out wr.drew Dj D2 pe' pn' ce' cn' Kj x (NJ.out.ext' exx) DJ.out HEX.out).mono ?_;rintro e w4 ⟨rfl,pe4,ce4,pn4,cn4,K4,N4,B4,Y4,Z4⟩;have KJ':KidSt w wr.drew i (i.dyn pe pn) K pe' pn' Kj bb g c m v (xsj ++ ks.drop j):=KJ.out.ext (Ext.drew (Ext.refl wr));have KJ4:=Lib.hid (KJ'.step N4 B4 Y4 Z4);have b4:=KJ4.out.b1;have g4:=N4.f;unfold Dd.fv at g4;have N4:=Lib.hid N4;have hrd:=kid_get HXL.out HHY.out;have gk4:=KJ4.out.row.cell_ rfl hrd;have fgk4:=KJ4.out.row.froz (j:=j) rfl;refine ⟨.int .i64 x,rfl,⟨b4,g4⟩, ?_⟩;clear KJ KJ' B4 Y4 Z4 b1 gkk fgk f4 zg zb zf CALL NJ;refine layy ?_;refine' wpAnyR_take (i:=6) (v:=?v6_1120) (fun _=>rfl) (fun _ _ _ h k=>h.trans k) rfl (by kernel_rfl) (by kernel_rfl) (by kernel_rfl) (fun _ _ _ h=>h) (Or.inl (Or.inl ⟨by rfl, ?hy6_1120⟩)) ?rest6_1120
     case hy6_1120=>(intro w _;go_simp;try with_reducible rfl)
     refine layy ?_;refine wpAnyE_put 7 (w':=w4.setCell ⟨g,j,none⟩ (.int .i64 x)) rfl (by kernel_rfl) (by rfl) ?run7 ?s7 ?next7
     case run7=>go_simp
     case s7=>exact ⟨by go_simp,by go_simp⟩
     refine layy ?_;refine wpAnyR_done (by kernel_rfl) ?_ _;intro w5 e5 _;subst e5
     go_wp2_with fail
     have bx : -9223372036854775808 ≤ x ∧ x ≤ 9223372036854775807:=by
      have h1:=HFT.out.lo;have h2:=HFT.out.hi;have h3:=HFT.out.ok.many;have h4:=Hp.known_few HFT.out.ok (n:=S.words.length) HBE.out;omega
     have KJ5:=Lib.hid (KJ4.out.set_ (kid_set (x:=x) HXL.out HHY.out) bx.1 bx.2);have N5:=Lib.hid (N4.out.far (l:=[g]) ((But.refl _ _).setCell (p:=⟨g,j,none⟩) (.inl (by simp)) (.int .i64 x)) (fun b hb=>by rw [List.mem_singleton.1 hb];exact Nat.le_trans (EW.out.le) KJ4.out.new.2.1) (fun b hb=>by rw [List.mem_singleton.1 hb];exact KJ4.out.far g (.inr rfl)))
     go_wp2_with fail
     go_roundg (m-(j+1))
     case measure=>omega
     case rel=>exact ⟨j+1,D2,xsj ++ [x],pe4,pn4,ce4,cn4,K4,by omega,Nat.le_refl _,by go_num,N5,KJ5,(show Aside _ from by rw [List.take_add_one,HLJ.out];exact Hp.refs_snoc RJ.out HEX.out),(show Aside _ from HFT.out.ok)⟩
   · have:j=m:=by omega
     subst this;have tk:decide ((j:Int) < (j:Int))=false:=decide_eq_false (by omega);have e1:Dj=D1 ∧ xsj=xs:=by
      have h1:=RJ.out;rw [List.take_of_length_le (by rw [List.length_map,HM.out];exact Nat.le_refl _),HR.out] at h1;simp only [Option.some.injEq,Prod.mk.injEq] at h1;exact ⟨h1.2.symm,h1.1.symm⟩
     obtain ⟨rfl,rfl⟩:=e1;rw [List.drop_of_length_le (by rw [HM.out];exact Nat.le_refl _),List.append_nil] at KJ;have hxl:xsj.length=j:=by rw [Hp.refs_len HR.out,List.length_map,HM.out]
     obtain ⟨nn,hnn⟩:∃ nn,Dj.nodes.length=nn:=⟨_,rfl⟩
     have few:=Hp.known_few DJ.out (n:=S.words.length) HBE.out;have many:=DJ.out.many;have NN:=Lib.hid hnn;have HXL:=Lib.hid hxl;have b0:=KJ.out.b0;have b1:=KJ.out.b1;have d3:=NJ.out.d3;have f3:=NJ.out.z3;rw [hnn] at d3 many ⊢;have zd:=cell_lt d3;have zb:=cell_lt b0;clear hnn hxl;go_upto_region 15 with (at_builtin;refine wpList_append_N rfl _ _ 47 41 rfl (z:=.agg #[.int .i64 0,.slice none 0 0]) (n:=2) (bytes:=32) Tryz.underlying47 (by kernel_rfl) rfl (by decide) (by decide) (m:=nn) (by rw [List.length_zipWith,NJ.out.kl,Nat.min_self,NN.out]) rfl rfl (NJ.out.nr.ext (exx)) (y:=[.int .i64 v,.slice (some ⟨g,0,none⟩) j c]) rfl (cells2 (by go_simp) (by go_simp)) (by simp [Value.oneCell']) (by omega) ?_;intro g' cap w3 row hR3 hG hrow hg' hlt';have Na:=NJ.out.ext' (show Ext wr (wr.alloc (.cells #[.int .i64 v,.slice (some ⟨g,0,none⟩) j c] 41)) from exx);obtain ⟨q2,r2⟩:=Na.store3 hG hrow;have NB:=Lib.hid (Na.node_ (g0:=g) (c0:=c) (q:=(v,xsj)) (by rw [show nodeC (v,xsj) (some ⟨g,0,none⟩,c)=[.int .i64 v,.slice (some ⟨g,0,none⟩) j c] by simp [nodeC,HXL.out]];exact hR3) hG hrow hg' hlt' (Row.at_ (Row.ext KJ.out.row exx)) ⟨Nat.le_trans EW.out.le KJ.out.new.2.1,by have h:=Row.lt KJ.out.row rfl;simp;omega⟩ (KJ.out.far g (.inr rfl)).1 (KJ.out.far g (.inr rfl)).2.1);rw [NN.out] at NB;have GI:=Lib.hid (show g' ∈ blk pn' ∨ wr.heap.size ≤ g' from hg'.imp (fun e=>by rw [e];simp [blk]) (fun e=>by rw [e];simp));rw [NN.out] at q2;clear Na hR3 hG hrow hg' hlt')
     obtain ⟨N4,B4⟩:=NB.out;refine cut_world (F:=fun W=>Hid (DgSt wb W i { Dj with nodes:=Dj.nodes ++ [(v,xsj)] } pe' ce' (some ⟨g',0,none⟩) cap (Kj ++ [(g,c)]) ∧ But (i.gd :: blk pn') (wr.alloc (.cells #[.int .i64 v,.slice (some ⟨g,0,none⟩) j c] 41)) W)) (Lib.hid ⟨N4,B4⟩) ?_;intro w4 NW;clear NB N4 B4 q2 r2;have k4:=NW.out.1.k;have d4:=NW.out.1.d3;simp only [List.length_append,List.length_cons,List.length_nil,NN.out,Nat.zero_add] at d4;have s1:wrap64 ((nn:Int)+1-1)=(nn:Int):=IntWalk.wrap64_in _ ⟨by omega,by omega⟩ |>.trans (by omega)
     have s2:IntKind.i64.wrap ((nn:Int)+1-1)=(nn:Int):=(IntWalk.i64_in _ ⟨by omega,by omega⟩).trans (by omega);obtain ⟨w5,hup,hm5,ht5⟩:=NW.out.1.map.put (t:=119) Tryz.underlying3 Tryz.underlying119 (by unfold maxLen;simp only;omega) (a:=a) (x:=(nn:Int)) (by omega) (by omega) (by omega);have B5:But [i.gk] w4 w5:=(But.refl _ _).turned ht5 (.inl (by simp));have N5:=Lib.hid (NW.out.1.known_ B5 hm5);have hlk:=N5.out.map.look (t:=119) Tryz.underlying3 Tryz.underlying119 (Tryz.zeroValue3 w5) (k:=a) (by omega);rw [getI_put (M:=Dj.known) (NJ.out.map.up),if_pos rfl] at hlk;simp only [Option.getD_some] at hlk;have k5:=N5.out.k;have HB5:=Lib.hid B5;clear hm5 ht5 B5
     go_wp2_with fail
     go_returns;rw [NN.out];refine ⟨rfl,_,_,_,_,_,N5.out, ?_,fun b hb=>?_,fun b hb=>?_⟩
     · have b1:But (i.dyn pe' pn') wr (wr.alloc (.cells #[.int .i64 v,.slice (some ⟨g,0,none⟩) j c] 41)):=(But.refl _ _).alloc _;have b2:=b1.trans (NW.out.2.mono (l':=i.dyn pe' pn') (fun x hx=>by
        rcases List.mem_cons.1 hx with rfl | hx
        · exact DgSt.gd_dyn _ _ _
        · exact DgSt.pn_dyn _ hx))
       have b3:=b2.trans (HB5.out.mono (fun x hx=>by rw [List.mem_singleton.1 hx];exact DgSt.gk_dyn _ _ _));exact KJ.out.but.over b3 KJ.out.dyn
     · have hsz:=KJ.out.but.size;simp only [Dd.dyn,blk,List.mem_cons,List.mem_append,List.not_mem_nil,or_false] at hb
       rcases hb with hb | hb | hb | rfl
       · exact KJ.out.dyn b (by rw [hb];exact DgSt.gk_dyn _ _ _)
       · exact KJ.out.dyn b (by rw [hb];exact DgSt.gd_dyn _ _ _)
       · exact KJ.out.dyn b (DgSt.pe_dyn _ hb)
       · rcases GI.out with h | h
         · exact KJ.out.dyn b (DgSt.pn_dyn _ h)
         · exact .inr (Nat.le_trans hsz h)
     · rw [List.map_append] at hb
       rcases List.mem_append.1 hb with hb | hb
       · exact KJ.out.kk b hb
       · have:b=g:=by simpa using hb
         rw [this];exact .inr KJ.out.new.2.1
theorem from_any {wb:World} {d:Hd} {S:Hp.Hs} {B:Nat} {L:List Hp.Tl} {ch:Nat → List Nat} {i:Dd} (hA:HAt wb d S) (hw:Hp.Wf S B L ch) (hb:d.hb=i.hb):∀ (n k:Nat),k ∈ S.taken → (S.order.length:Int)-Hp.rk S k < n → ∀ (w:World) (D D1:Hp.Dg) (pe pn:Option Addr) (ce cn:Nat) (K:List (Nat × Nat)) (x:Int),DgSt wb w i D pe ce pn cn K → Hp.DgOk S D → S.from' n k D=some (x,D1) →
    Calls Tryz.prog 81 (i.args k) w (FromPost wb w i (i.dyn pe pn) D1 x K)
  | 0,_,_,_,_,_,_,_,_,_,_,_,_,_,_,e=>by simp [Hp.Hs.from'] at e
  | n+1,k,hk,hn,w,D,D1,pe,pn,ce,cn,K,x,h,hD,e=>by
   have hp:=hw.part hk;have hi:=hw.hi;have few:=Hp.known_few hD (n:=S.words.length) hA.below;have many:=hD.many;unfold Hp.Hs.from' at e
   cases hg:getI k D.known with
   | some y=>
    rw [hg] at e;simp only [Option.some.injEq,Prod.mk.injEq] at e;obtain ⟨rfl,rfl⟩:=e;exact from_known h (by omega) hg
   | none=>
    rw [hg] at e;simp only at e
    cases he:Hp.isEnd (Hp.ow S.words k) with
    | true=>
     rw [he] at e;simp only [if_true,Option.some.injEq,Prod.mk.injEq] at e;obtain ⟨rfl,rfl⟩:=e;exact from_end hA hw hb h hk hg he (by omega) (by omega)
    | false=>
     rw [he] at e;simp only [Bool.false_eq_true,if_false,Option.bind_eq_bind,Option.bind_eq_some_iff,Prod.exists,Option.some.injEq,Prod.mk.injEq] at e;obtain ⟨xs,D2,e1,rfl,rfl⟩:=e;exact from_node hA hw hb h hD hk hg he (fun q hq=>by have:=(hw.kid_in hk he q hq).2;omega) (from_any hA hw hb n) e1
end Go.Proofs.YtdokmmhjmclmnaaGreat
