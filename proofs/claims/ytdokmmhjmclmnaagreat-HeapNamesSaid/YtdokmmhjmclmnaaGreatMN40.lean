/-
  Part 40 of a proof: HP4 HN3.
-/
import Derived.Test.YtdokmmhjmclmnaaGreatMN07
import Derived.Test.YtdokmmhjmclmnaaGreatMN12
import Derived.Test.YtdokmmhjmclmnaaGreatMN17
import Derived.Test.YtdokmmhjmclmnaaGreatMN21
import Derived.Test.YtdokmmhjmclmnaaGreatMN32
import Derived.Test.YtdokmmhjmclmnaaGreatMN38
import Derived.Test.YtdokmmhjmclmnaaGreatMN39
set_option linter.unusedSimpArgs false
set_option linter.unusedVariables false
set_option linter.unusedSectionVars false
set_option linter.unnecessarySimpa false
namespace Go.Proofs.YtdokmmhjmclmnaaGreat
open Go.RowKit Go.Maps
theorem checkE_ok {d:Nd.Dia} (h:checkE d=0):looseE d=0 ∧ d.Is:=by
 unfold checkE at h
 split at h
 · rename_i h1;exact absurd h h1
 · rename_i h1
   split at h
   · rename_i h2;exact ⟨by omega,h2⟩
   · omega
theorem toA_in {A N:List Int} (ha:∀ x ∈ A,-9223372036854775808 ≤ x ∧ x ≤ 9223372036854775807) (hn:∀ x ∈ N,-9223372036854775808 ≤ x ∧ x ≤ 9223372036854775807) (k:Int) : -9223372036854775808 ≤ Nd.toA A N k ∧ Nd.toA A N k ≤ 9223372036854775807:=by
 unfold Nd.toA
 split
 · rw [List.getD_eq_getElem?_getD]
   cases h:A[(-1-k).toNat]? with
   | none=>simp
   | some x=>exact ha x (List.mem_of_getElem? h)
 · rw [List.getD_eq_getElem?_getD]
   cases h:N[k.toNat]? with
   | none=>simp
   | some x=>exact hn x (List.mem_of_getElem? h)
theorem toA_rep {A N:List Int} {m:Nat} {k:Int} (h:k < N.length):Nd.toA A (N ++ List.replicate m 0) k=Nd.toA A N k:=by
 unfold Nd.toA
 split
 · rfl
 · rw [List.getD_eq_getElem?_getD,List.getD_eq_getElem?_getD,List.getElem?_append_left (by omega)]
set_option maxRecDepth 100000 in
set_option maxHeartbeats 32000000 in
theorem put_good {w:World} {hd:Hd} {S S':Hp.Hs} {B:Nat} {L:DgL} {d:Nd.Dia} {xr er:Int} (h:HAt w hd S) (hr:DgRd w L d.sizes d.order d.ends d.nodes) (hN:DgNumN d L) (hc:checkE d=0) (hz:d.sizes=S.sizes) (ho:d.order=S.order) (hg:Hp.Good S B) (hdl:∀ b ∈ L.blocks,b < w.heap.size ∧ b ∉ hd.own) (hp:Nd.put d S=some (xr,er,S')) :
    Calls Tryz.prog 37 #[.pointer (some ⟨hd.hb,0,none⟩),dgV L d.sizes.length d.order.length d.ends.length d.nodes.length d.root] w (PutPost w hd xr er S'):=by
  obtain ⟨hle,his⟩:=checkE_ok hc;obtain ⟨hfr,hlb⟩:=looseE_ok hle;obtain ⟨hlow,hroot⟩:=looseB_low hlb;have hin:=looseB_in (Hp.frameErr_ok hfr).1 hlb hN;have H:=Lib.hid (Now.refl h);have HR:=Lib.hid hr;have IM:=Lib.hid (fun W (hE:Ext w W)=>isMade_yes (h.ext hE));have CK:=Lib.hid (fun W (hE:Ext w W)=>nCheck (hr.ext hE) hN);rw [hc] at CK;have ZZ:=Lib.hid (fun W (hE:Ext w W)=>sEqual_is (b:=true) (decide_eq_true hz) (hr.ext hE).s (h.ext hE).sizes);have OO:=Lib.hid (fun W (hE:Ext w W)=>sEqual_is (b:=true) (decide_eq_true ho) (hr.ext hE).o (h.ext hE).order);have c0:=h.c0;have c1:=h.c1;have OL:=Lib.hid (show (∀ b ∈ hd.own,b < w.heap.size) ∧ (∀ b o,hd.sp=some ⟨b,o,none⟩ → b < w.heap.size) ∧ ∀ b o,hd.op=some ⟨b,o,none⟩ → b < w.heap.size from ⟨h.own_lt,h.old1,h.old2⟩);have HIN:=Lib.hid hin;have HROOT:=Lib.hid hroot;have HDL:=Lib.hid hdl;have HP:=Lib.hid hp;have HG:=Lib.hid hg;have sle:=hr.s.le;have ole:=hr.o.le;have l3:=hr.e.le;have l4:=hr.n.le;rw [List.length_map] at l3;rw [zip_nodeC_len hr.kl] at l4;have el:=hin.el;have nl:=hin.nl;obtain ⟨n1,h1⟩:∃ n,d.sizes.length=n:=⟨_,rfl⟩
  obtain ⟨n2,h2⟩:∃ n,d.order.length=n:=⟨_,rfl⟩
  obtain ⟨n3,h3⟩:∃ n,d.ends.length=n:=⟨_,rfl⟩
  obtain ⟨n4,h4⟩:∃ n,d.nodes.length=n:=⟨_,rfl⟩
  obtain ⟨rt,h5⟩:∃ n,d.root=n:=⟨_,rfl⟩
  have HQ:=Lib.hid (show d.ends.length=n3 ∧ d.nodes.length=n4 ∧ d.root=rt from ⟨h3,h4,h5⟩);rw [h1] at ZZ;rw [h2] at OO;rw [h1,h2,h3,h4,h5] at CK ⊢;rw [h3] at l3 el;rw [h4] at l4 nl;clear h hr hN hc hz ho hg hdl hp hle his hfr hlb hlow hroot hin h1 h2 h3 h4 h5;generalize S.sizes.length=m1 at *;generalize S.order.length=m2 at *;obtain ⟨ps,cs,po,co,pe,ce,pn,cn,K⟩:=L;unfold dgV DgL.cells at *;simp only at *;have mixed:Tryz.prog.follows .mixedOrders=true:=by kernel_rfl
  go_enter Tryz.func37,Tryz.ntmps37
  go_upto_region 6 with (first
   | (go_at_call 72;refine (IM.out _ (exx)).mono ?_;rintro e w1 ⟨rfl,hb1⟩;obtain ⟨hc1,hf1,hs1⟩:=hb1.cells;have hz1_0:w.heap.size < w1.heap.size:=(by have h:=hb1.le;(try simp at h);omega);have hc1_0:=hb1.cell (b:=w.heap.size) (by first | omega | (simp;done) | (simp;omega));have hf1_0:=hb1.frozen (b:=w.heap.size) (by first | omega | (simp;done) | (simp;omega)))
   | (go_at_call 100;refine (CK.out _ (exx)).mono ?_;rintro e w2 ⟨rfl,hb2⟩;obtain ⟨hc2,hf2,hs2⟩:=hb2.cells;have hz2_0:w.heap.size < w2.heap.size:=(by have h:=hb2.le;(try simp at h);omega);have hc2_0:=hb2.cell (b:=w.heap.size) (by first | omega | (simp;done) | (simp;omega));have hf2_0:=hb2.frozen (b:=w.heap.size) (by first | omega | (simp;done) | (simp;omega))))
  refine cut_world (F:=fun W=>Hid (Ext w W) ∧ W.cell? ⟨w.heap.size,0,none⟩=some (.slice ps n1 cs) ∧ W.cell? ⟨w.heap.size,1,none⟩=some (.slice po n2 co) ∧ W.cell? ⟨w.heap.size,2,none⟩=some (.slice pe n3 ce) ∧ W.cell? ⟨w.heap.size,3,none⟩=some (.slice pn n4 cn) ∧ W.cell? ⟨w.heap.size,4,none⟩=some (.int .i64 rt)) ⟨Lib.hid (exx),by go_simp,by go_simp,by go_simp,by go_simp,by go_simp⟩ ?_;intro w3 ⟨E3,g0,g1,g2,g3,g4⟩;clear hb2 hc2 hf2 hs2 hz2_0 hc2_0 hf2_0 hb1 hc1 hf1 hs1 hz1_0 hc1_0 hf1_0 IM CK;have q0:=(E3.out.cell (cell_lt c0) 0).trans c0;have q1:=(E3.out.cell (cell_lt c0) 1).trans c1;generalize hgd:w.heap.size=gd at g0 g1 g2 g3 g4 ⊢;have HGD:=Lib.hid hgd;clear hgd c0 c1;have zg:=cell_lt g0;have zq:=cell_lt q0;have PR37:=Lib.hid (fun (ww:World) (hSw:Ext w3 ww)=>And.intro ((hSw.cell zg 0).trans g0) ((hSw.cell zq 0).trans q0));refine wp_region_seq (S:=fun W=>Ext w3 W) (R:=Ext) (by kernel_rfl) Ext.refl ?_ ?_
  · exact exx
  refine' tkL 0 rfl ?h0_2093 ?_
  case h0_2093=>(intro w q;obtain ⟨g0',q0'⟩:=PR37.out w q;go_simp;try with_reducible rfl)
  refine layy ?_;refine' tkL 1 rfl ?h1_2094 ?_
  case h1_2094=>(intro w q;obtain ⟨g0',q0'⟩:=PR37.out w q;go_simp;try with_reducible rfl)
  refine layy ?_;refine' tkL 2 rfl ?h2_2095 ?_
  case h2_2095=>(intro w q;obtain ⟨g0',q0'⟩:=PR37.out w q;go_simp;try with_reducible rfl)
  refine layy ?_;refine' tkL 3 rfl ?h3_2096 ?_
  case h3_2096=>(intro w q;obtain ⟨g0',q0'⟩:=PR37.out w q;go_simp;try with_reducible rfl)
  refine layy ?_;refine' tkL 4 rfl ?h4_2097 ?_
  case h4_2097=>(intro w q;obtain ⟨g0',q0'⟩:=PR37.out w q;go_simp;try with_reducible rfl)
  refine layy ?_;refine' tkL 5 rfl ?h5_2098 ?_
  case h5_2098=>(intro w q;obtain ⟨g0',q0'⟩:=PR37.out w q;go_simp;try with_reducible rfl)
  refine layy ?_;refine' tkL 6 rfl ?h6_2099 ?_
  case h6_2099=>(intro w q;obtain ⟨g0',q0'⟩:=PR37.out w q;go_simp;try with_reducible rfl)
  refine layy ?_;refine' tkR 7 (v:=.bool true) rfl (Or.inr ⟨by rfl,101,_, ?hx7_2100, ?hy7_2100⟩) ?rest7_2100
  case hx7_2100=>(intro w hSw;go_simp;try with_reducible rfl)
  case hy7_2100=>exact fun w hE=>(ZZ.out _ (E3.out.trans hE)).mono (fun _ _ h=>⟨h.1,h.2,Ext.trans hE h.2⟩)
  refine layy ?_;refine' tkL 8 rfl ?h8_2101 ?_
  case h8_2101=>(intro w q;obtain ⟨g0',q0'⟩:=PR37.out w q;go_simp;try with_reducible rfl)
  refine layy ?_;refine' tkL 9 rfl ?h9_2102 ?_
  case h9_2102=>(intro w q;obtain ⟨g0',q0'⟩:=PR37.out w q;go_simp;try with_reducible rfl)
  refine layy ?_;refine wpAnyR_done (by kernel_rfl) ?_ _;intro x4 _ Ex4;have E4:=Lib.hid (E3.out.trans Ex4);have g14:=(Ex4.cell zg 1).trans g1;have g24:=(Ex4.cell zg 2).trans g2;have g34:=(Ex4.cell zg 3).trans g3;have g44:=(Ex4.cell zg 4).trans g4;have q14:=(Ex4.cell zq 1).trans q1;have zg4:=cell_lt g14;have zq4:=cell_lt q14;clear Ex4 g0 g1 g2 g3 g4 q0 q1 zg zq ZZ;go_upto_region 7 with fail
  have PR38:=Lib.hid (fun (ww:World) (hSw:Ext x4 ww)=>And.intro ((hSw.cell zg4 1).trans g14) ((hSw.cell zq4 1).trans q14));refine wp_region_seq (S:=fun W=>Ext x4 W) (R:=Ext) (by kernel_rfl) Ext.refl ?_ ?_
  · exact exx
  refine' tkL 0 rfl ?h0_2103 ?_
  case h0_2103=>(intro w q;obtain ⟨g1',q1'⟩:=PR38.out w q;go_simp;try with_reducible rfl)
  refine layy ?_;refine' tkL 1 rfl ?h1_2104 ?_
  case h1_2104=>(intro w q;obtain ⟨g1',q1'⟩:=PR38.out w q;go_simp;try with_reducible rfl)
  refine layy ?_;refine' tkL 2 rfl ?h2_2105 ?_
  case h2_2105=>(intro w q;obtain ⟨g1',q1'⟩:=PR38.out w q;go_simp;try with_reducible rfl)
  refine layy ?_;refine' tkL 3 rfl ?h3_2106 ?_
  case h3_2106=>(intro w q;obtain ⟨g1',q1'⟩:=PR38.out w q;go_simp;try with_reducible rfl)
  refine layy ?_;refine' tkL 4 rfl ?h4_2107 ?_
  case h4_2107=>(intro w q;obtain ⟨g1',q1'⟩:=PR38.out w q;go_simp;try with_reducible rfl)
  refine layy ?_;refine' tkL 5 rfl ?h5_2108 ?_
  case h5_2108=>(intro w q;obtain ⟨g1',q1'⟩:=PR38.out w q;go_simp;try with_reducible rfl)
  refine layy ?_;refine' tkL 6 rfl ?h6_2109 ?_
  case h6_2109=>(intro w q;obtain ⟨g1',q1'⟩:=PR38.out w q;go_simp;try with_reducible rfl)
  refine layy ?_;refine' tkR 7 (v:=.bool true) rfl (Or.inr ⟨by rfl,101,_, ?hx7_2110, ?hy7_2110⟩) ?rest7_2110
  case hx7_2110=>(intro w hSw;go_simp;try with_reducible rfl)
  case hy7_2110=>exact fun w hE=>(OO.out _ (E4.out.trans hE)).mono (fun _ _ h=>⟨h.1,h.2,Ext.trans hE h.2⟩)
  refine layy ?_;refine' tkL 8 rfl ?h8_2111 ?_
  case h8_2111=>(intro w q;obtain ⟨g1',q1'⟩:=PR38.out w q;go_simp;try with_reducible rfl)
  refine layy ?_;refine' tkL 9 rfl ?h9_2112 ?_
  case h9_2112=>(intro w q;obtain ⟨g1',q1'⟩:=PR38.out w q;go_simp;try with_reducible rfl)
  refine layy ?_;refine wpAnyR_done (by kernel_rfl) ?_ _;intro x5 _ Ex5;have E5:=Lib.hid (E4.out.trans Ex5);have g2:=(Ex5.cell zg4 2).trans g24;have g3:=(Ex5.cell zg4 3).trans g34;have g4:=(Ex5.cell zg4 4).trans g44;have zg:=cell_lt g2;clear Ex5 g14 g24 g34 g44 q14 zg4 zq4 OO E3 E4;go_upto_region 9 with fail
  have hmk1:=run_make_row' (P:=Tryz.prog) 22 3 (.int .i64 0) 8 Tryz.underlying22 (show (Tryz.prog.info? 3).map (fun i=>(i.zero,i.size,i.bytes))=some (some (.int .i64 0),1,8) from by kernel_rfl) rfl .i64 .i64 n3 (by omega) (by omega);have hmk2:=run_make_row' (P:=Tryz.prog) 22 3 (.int .i64 0) 8 Tryz.underlying22 (show (Tryz.prog.info? 3).map (fun i=>(i.zero,i.size,i.bytes))=some (some (.int .i64 0),1,8) from by kernel_rfl) rfl .i64 .i64 n4 (by omega) (by omega);have PR39:=Lib.hid (fun (ww:World) (hSw:Ext x5 ww)=>And.intro ((hSw.cell zg 2).trans g2) ((hSw.cell zg 3).trans g3));refine wp_region_held_drew (S:=fun W=>Ext x5 W) (by kernel_rfl) ?_ (fun hS=>?_)
  · exact exx
  · skip
    refine' wpAnyH_take (i:=0) (v:=?v0_2113) rfl (by kernel_rfl) (by kernel_rfl) (by kernel_rfl) (fun _ _ _ h=>h) (Or.inl ⟨by rfl, ?hy0_2113⟩) (by assumption) ?rest0_2113
    case hy0_2113=>(intro w q;obtain ⟨g2',g3'⟩:=PR39.out w q;go_simp;try with_reducible rfl)
    refine layy ?_;refine' wpAnyH_take (i:=1) (v:=?v1_2114) rfl (by kernel_rfl) (by kernel_rfl) (by kernel_rfl) (fun _ _ _ h=>h) (Or.inl ⟨by rfl, ?hy1_2114⟩) (by assumption) ?rest1_2114
    case hy1_2114=>(intro w q;obtain ⟨g2',g3'⟩:=PR39.out w q;go_simp;try with_reducible rfl)
    refine layy ?_;refine' wpAnyH_take (i:=2) (v:=?v2_2115) rfl (by kernel_rfl) (by kernel_rfl) (by kernel_rfl) (fun _ _ _ h=>h) (Or.inl ⟨by rfl, ?hy2_2115⟩) (by assumption) ?rest2_2115
    case hy2_2115=>(intro w q;obtain ⟨g2',g3'⟩:=PR39.out w q;go_simp;try with_reducible rfl)
    refine layy ?_;refine' wpAnyH_take (i:=4) (v:=?v4_2116) rfl (by kernel_rfl) (by kernel_rfl) (by kernel_rfl) (fun _ _ _ h=>h) (Or.inl ⟨by rfl, ?hy4_2116⟩) (by assumption) ?rest4_2116
    case hy4_2116=>(intro w q;obtain ⟨g2',g3'⟩:=PR39.out w q;go_simp;try with_reducible rfl)
    refine layy ?_;refine' wpAnyH_take (i:=5) (v:=?v5_2117) rfl (by kernel_rfl) (by kernel_rfl) (by kernel_rfl) (fun _ _ _ h=>h) (Or.inl ⟨by rfl, ?hy5_2117⟩) (by assumption) ?rest5_2117
    case hy5_2117=>(intro w q;obtain ⟨g2',g3'⟩:=PR39.out w q;go_simp;try with_reducible rfl)
    refine layy ?_;refine' wpAnyH_take (i:=6) (v:=?v6_2118) rfl (by kernel_rfl) (by kernel_rfl) (by kernel_rfl) (fun _ _ _ h=>h) (Or.inl ⟨by rfl, ?hy6_2118⟩) (by assumption) ?rest6_2118
    case hy6_2118=>(intro w q;obtain ⟨g2',g3'⟩:=PR39.out w q;go_simp;try with_reducible rfl)
    refine layy ?_;refine wpAnyH_slots [3,7,8,9,10,11] [48,52,7,8] (fun L vs W=>∃ v1 v2 v3 v4:Value,vs=[v1,v2,v3,v4] ∧ Ext x5 W ∧ PtK x5 n3 n4 L W v1 v2 v3 v4) (by kernel_rfl) (by kernel_rfl) ?h0 ?hsteps ?hend
    case h0=>exact ⟨_,_,_,_,rfl,hS,⟨hS,fun h=>(by cases h),fun h=>(by cases h),fun h=>(by cases h),fun h=>(by cases h),fun h=>(by cases h),fun h=>(by cases h),fun h=>(by cases h),fun h=>(by cases h),fun h=>(by cases h),fun h=>(by cases h),fun h=>(by cases h),fun h=>(by cases h)⟩⟩
    case hsteps=>
     refine StepsInv.cons rfl ?_ (StepsInv.cons rfl ?_ (StepsInv.cons rfl ?_ (StepsInv.cons rfl ?_ (StepsInv.cons rfl ?_ (StepsInv.cons rfl ?_ StepsInv.nil)))))
     all_goals (try simp only [List.getElem_toArray,List.getElem_cons_zero,List.getElem_cons_succ])
     all_goals
      rintro L a w ⟨vs,ha,v1,v2,v3,v4,rfl,hE,J⟩ hL hC;obtain rfl:=ha;intro K' hK
      (try simp only [putAll,Act.put,List.setIfInBounds_toArray,List.set_cons_zero,List.set_cons_succ])
     · go_simp;exact hK.out _ _ (hE.alloc _) ⟨[.slice (some ⟨w.heap.size,0,none⟩) n3 n3,v2,v3,v4],rfl,_,_,_,_,rfl,hE.alloc _,J.step3 hL⟩
     · go_simp;exact hK.out _ _ (hE.alloc _) ⟨[v1,.slice (some ⟨w.heap.size,0,none⟩) n4 n4,v3,v4],rfl,_,_,_,_,rfl,hE.alloc _,J.step7 hL⟩
     · go_simp;exact hK.out _ _ (hE.alloc _) ⟨[v1,v2,.pointer (some ⟨w.heap.size,0,none⟩),v4],rfl,_,_,_,_,rfl,hE.alloc _,J.step8 hL _⟩
     · go_simp;exact hK.out _ _ (hE.alloc _) ⟨[v1,v2,v3,.pointer (some ⟨w.heap.size,0,none⟩)],rfl,_,_,_,_,rfl,hE.alloc _,J.step9 hL _⟩
     · have h3:L 3=true:=hC ⟨3,.data⟩ (by simp) rfl;have h8:L 8=true:=hC ⟨8,.data⟩ (by simp) rfl;obtain ⟨⟨g,y,rfl,p1,p2,-⟩,p3⟩:=J.c h8;have hg:=p3 g (by simp [vb2]);obtain ⟨⟨gr,rfl,-⟩,-⟩:=J.a h3;go_simp;exact hK.out _ _ (Ext.setCell hE (p:=⟨g,0,none⟩) hg _) ⟨[_,v2,_,v4],rfl,_,_,_,_,rfl,Ext.setCell hE (p:=⟨g,0,none⟩) hg _,J.step10 h3 h8⟩
     · have h7:L 7=true:=hC ⟨7,.data⟩ (by simp) rfl;have h9:L 9=true:=hC ⟨9,.data⟩ (by simp) rfl;obtain ⟨⟨g,y,rfl,p1,p2,-⟩,p3⟩:=J.d h9;have hg:=p3 g (by simp [vb2]);obtain ⟨⟨gr,rfl,-⟩,-⟩:=J.b h7;go_simp;exact hK.out _ _ (Ext.setCell hE (p:=⟨g,0,none⟩) hg _) ⟨[v1,_,v3,_],rfl,_,_,_,_,rfl,Ext.setCell hE (p:=⟨g,0,none⟩) hg _,J.step11 h7 h9⟩
    rintro LL _ w9 ⟨v1,v2,v3,v4,rfl,E9,J⟩ hall;have j3:=hall 3 (by simp);have j7:=hall 7 (by simp);have j8:=hall 8 (by simp);have j9:=hall 9 (by simp);have j10:=hall 10 (by simp);have j11:=hall 11 (by simp);have ab:=J.ab j3 j7;have ac:=J.ac j3 j8;have ad:=J.ad j3 j9;have bc:=J.bc j7 j8;have bd:=J.bd j7 j9;obtain ⟨⟨ge,rfl,ra⟩,la⟩:=J.a j3;obtain ⟨⟨gn,rfl,rn⟩,lb⟩:=J.b j7;obtain ⟨⟨g7,y7,rfl,c7,z7,e7⟩,lc⟩:=J.c j8;obtain ⟨⟨g8,y8,rfl,c8,z8,e8⟩,ld⟩:=J.d j9;rw [e7 j10] at c7;rw [e8 j11] at c8;have E59:=E5.out.trans E9;have P0:=Lib.hid (show PtSt w w9 hd S ⟨ps,cs,po,co,pe,ce,pn,cn,K⟩ d gd g7 g8 ge gn ([] ++ List.replicate (n3-0) 0) (List.replicate n4 0) from by
     simp only [vb2,blk,List.mem_singleton,forall_eq] at ab ac ad bc bd la lb lc ld;have h1:=E5.out.le;have h2:=HGD.out
     exact
      { now:=H.out.ext E59
        rd:=HR.out.ext E59
        b7:=by rw [HQ.out.1];exact c7
        b8:=by rw [HQ.out.2.1];exact c8
        d2:=by rw [HQ.out.1];exact (E9.cell zg 2).trans g2
        d3:=by rw [HQ.out.2.1];exact (E9.cell zg 3).trans g3
        d4:=by rw [HQ.out.2.2];exact (E9.cell zg 4).trans g4
        ra:=ra
        rn:=rn
        ne:=by omega
        lo:=by omega
        dl:=HDL.out
        hl:=OL.out.1
        sl:=OL.out.2 })
    clear J hall ab ac ad bc bd la lb lc ld ra rn c7 c8 z7 z8 e7 e8 j3 j7 j8 j9 j10 j11 E59 E9 E5 g2 g3 g4 zg hS hmk1 hmk2;simp only [putAll,Act.put,List.setIfInBounds_toArray,List.set_cons_zero,List.set_cons_succ];have b2:=P0.out.d2;rw [HQ.out.1] at b2;simp only at b2
    go_wp2_with fail
    clear b2
    go_loopg [57] n3 (fun g' iv wr=>∃ (j:Nat) (Sj:Hp.Hs) (A:List Int),j ≤ n3 ∧ n3-j ≤ g' ∧ iv = .int .i64 j ∧ Hid (PtSt w wr hd Sj ⟨ps,cs,po,co,pe,ce,pn,cn,K⟩ d gd g7 g8 ge gn (A ++ List.replicate (n3-j) 0) (List.replicate n4 0)) ∧ Aside (A.length=j) ∧ Aside (Nd.putE S d.ends []=Nd.putE Sj (d.ends.drop j) A) ∧ Aside (Hp.Good Sj B))
    case atStart=>exact ⟨0,S,[],Nat.zero_le _,by omega,rfl,P0,rfl,rfl,HG.out⟩
    case round=>
     obtain ⟨j,Sj,A,hj,hg,rfl,PJ,AL,EQ,GJ⟩:=hrel;clear P0
     by_cases hlt:j < n3
     · have tk:decide ((j:Int) < (n3:Int))=true:=decide_eq_true (by omega);obtain ⟨v,hv⟩:=get_list (E:=d.ends) (j:=j) (by rw [HQ.out.1];exact hlt);obtain ⟨be,oe,hpe,hbe,hce⟩:=PJ.out.rd.e.end_cells (by rw [HQ.out.1];omega);simp only at hpe;subst hpe;obtain ⟨q1,q2⟩:=hce j v hv;have hov:=HIN.out.ends v (List.mem_of_getElem? hv);obtain ⟨v1,n⟩:=v;obtain ⟨⟨f1,f2⟩,f3,f4⟩:=hov;simp only at q1 q2 f1 f2 f3 f4;obtain ⟨f,rfl⟩:∃ f:Nat,v1=(f:Int):=⟨v1.toNat,by omega⟩
       obtain ⟨a,er1,S1,h1,k1,k2⟩:=Hp.end_good GJ.out (fault:=(f:Int)) (n:=n) (by omega);have sm:=end_small PJ.out.now.small h1;have EA:=Lib.hid (fun W (hA:HAt W hd Sj)=>End_any hA (f:=f) (n:=n) (by omega) f3 f4 h1);have HV:=Lib.hid hv;have H1:=Lib.hid h1;have K1:=Lib.hid k1;clear hv hce f3 f4 h1 k1 k2;go_upto_region 14 with fail
       refine cut_world (F:=fun W=>Hid (PtSt w W hd Sj ⟨ps,cs,po,co,some ⟨be,oe,none⟩,ce,pn,cn,K⟩ d gd g7 g8 ge gn (A ++ List.replicate (n3-j) 0) (List.replicate n4 0)) ∧ W.cell? ⟨wr.heap.size,0,none⟩=some (.int .u8 f) ∧ W.cell? ⟨wr.heap.size,1,none⟩=some (.int .i64 n)) ⟨Lib.hid (PJ.out.ext exx),by go_simp,by go_simp⟩ ?_;intro w2 ⟨P2,x0,x1⟩;have GV:=Lib.hid (show wr.heap.size ∉ hd.own ∧ wr.heap.size ≠ ge from ⟨fun hm=>by have h1:=PJ.out.hl _ hm;have h2:=PJ.out.now.but.size;omega,fun e=>by have:=PJ.out.ra.lt;omega⟩);clear q1 q2;generalize wr.heap.size=gv at x0 x1 GV ⊢;have b7:=P2.out.b7;rw [HQ.out.1] at b7;refine wp_region_seq (S:=fun W=>W.cell? ⟨g7,0,none⟩=some (.slice (some ⟨ge,0,none⟩) n3 n3) ∧ W.cell? ⟨gv,0,none⟩=some (.int .u8 f) ∧ W.cell? ⟨gv,1,none⟩=some (.int .i64 n)) (R:=Eq) (by kernel_rfl) (fun _=>rfl) ?_ ?_
       · exact ⟨b7,x0,x1⟩
       refine' wpAnyR_take (i:=0) (v:=?v0_2119) (fun _=>rfl) (fun _ _ _ h k=>h.trans k) rfl (by kernel_rfl) (by kernel_rfl) (by kernel_rfl) (fun _ _ _ h=>h) (Or.inl (Or.inl ⟨by rfl, ?hy0_2119⟩)) ?rest0_2119
       case hy0_2119=>(intro w hSw;(obtain ⟨s1,s2,s3⟩:=hSw);go_simp;try with_reducible rfl)
       refine layy ?_;refine' wpAnyR_take (i:=1) (v:=?v1_2120) (fun _=>rfl) (fun _ _ _ h k=>h.trans k) rfl (by kernel_rfl) (by kernel_rfl) (by kernel_rfl) (fun _ _ _ h=>h) (Or.inl (Or.inl ⟨by rfl, ?hy1_2120⟩)) ?rest1_2120
       case hy1_2120=>(intro w hSw;(obtain ⟨s1,s2,s3⟩:=hSw);go_simp;try with_reducible rfl)
       refine layy ?_;refine' wpAnyR_take (i:=2) (v:=?v2_2121) (fun _=>rfl) (fun _ _ _ h k=>h.trans k) rfl (by kernel_rfl) (by kernel_rfl) (by kernel_rfl) (fun _ _ _ h=>h) (Or.inl (Or.inl ⟨by rfl, ?hy2_2121⟩)) ?rest2_2121
       case hy2_2121=>(intro w hSw;(obtain ⟨s1,s2,s3⟩:=hSw);go_simp;try with_reducible rfl)
       refine layy ?_;refine' wpAnyR_take (i:=3) (v:=?v3_2122) (fun _=>rfl) (fun _ _ _ h k=>h.trans k) rfl (by kernel_rfl) (by kernel_rfl) (by kernel_rfl) (fun _ _ _ h=>h) (Or.inl (Or.inl ⟨by rfl, ?hy3_2122⟩)) ?rest3_2122
       case hy3_2122=>(intro w hSw;(obtain ⟨s1,s2,s3⟩:=hSw);go_simp;try with_reducible rfl)
       refine layy ?_;refine wpAnyE_call 4 (f:=43) (args:=#[.pointer (some ⟨hd.hb,0,none⟩),.agg #[.int .u8 f,.int .i64 n]]) rfl (by kernel_rfl) (by rfl) ?run4 ?call4
       case run4=>go_simp
       have P2d:=Lib.hid (P2.out.ext (Ext.drew (Ext.refl w2)));refine (EA.out _ P2d.out.now.toHAt).mono ?_;rintro e4 w4 ⟨rfl,N4⟩;have P4:=Lib.hid (P2d.out.heap N4);have b74:=P4.out.b7;rw [HQ.out.1] at b74;have x04:=(N4.but.cell (cell_lt (show w2.drew.cell? ⟨gv,0,none⟩=_ from x0)) GV.out.1 0).trans x0;have x14:=(N4.but.cell (cell_lt (show w2.drew.cell? ⟨gv,0,none⟩=_ from x0)) GV.out.1 1).trans x1;refine ⟨.tuple #[.int .i64 a,.int .i64 er1],rfl,⟨b74,x04,x14⟩, ?_⟩;clear N4 x0 x1 b7 P2 P2d EA;refine layy ?_;refine' wpAnyR_take (i:=5) (v:=?v5_2123) (fun _=>rfl) (fun _ _ _ h k=>h.trans k) rfl (by kernel_rfl) (by kernel_rfl) (by kernel_rfl) (fun _ _ _ h=>h) (Or.inl (Or.inl ⟨by rfl, ?hy5_2123⟩)) ?rest5_2123
       case hy5_2123=>(intro w _;go_simp;try with_reducible rfl)
       refine layy ?_;refine' wpAnyR_take (i:=6) (v:=?v6_2124) (fun _=>rfl) (fun _ _ _ h k=>h.trans k) rfl (by kernel_rfl) (by kernel_rfl) (by kernel_rfl) (fun _ _ _ h=>h) (Or.inl (Or.inl ⟨by rfl, ?hy6_2124⟩)) ?rest6_2124
       case hy6_2124=>(intro w _;go_simp;try with_reducible rfl)
       refine layy ?_;refine' wpAnyR_take (i:=7) (v:=?v7_2125) (fun _=>rfl) (fun _ _ _ h k=>h.trans k) rfl (by kernel_rfl) (by kernel_rfl) (by kernel_rfl) (fun _ _ _ h=>h) (Or.inl (Or.inl ⟨by rfl, ?hy7_2125⟩)) ?rest7_2125
       case hy7_2125=>(intro w _;go_simp;try with_reducible rfl)
       refine layy ?_;refine' wpAnyR_take (i:=8) (v:=?v8_2126) (fun _=>rfl) (fun _ _ _ h k=>h.trans k) rfl (by kernel_rfl) (by kernel_rfl) (by kernel_rfl) (fun _ _ _ h=>h) (Or.inl (Or.inl ⟨by rfl, ?hy8_2126⟩)) ?rest8_2126
       case hy8_2126=>(intro w _;go_simp;try with_reducible rfl)
       refine layy ?_;have qj:=P4.out.ra.get (rep_get AL.out hlt);have fj:=P4.out.ra.froz j;have P5:=Lib.hid (P4.out.setA (rep_set (x:=a) AL.out hlt) (by omega) (by omega));have b75:=P5.out.b7;rw [HQ.out.1] at b75;have B5:But [ge] w4 (w4.setCell ⟨ge,j,none⟩ (.int .i64 a)):=(But.refl _ _).setCell (.inl (by simp)) _;have x05:=(B5.cell (cell_lt x04) (by simpa using GV.out.2) 0).trans x04;have x15:=(B5.cell (cell_lt x04) (by simpa using GV.out.2) 1).trans x14;refine wpAnyE_put 9 (w':=w4.setCell ⟨ge,j,none⟩ (.int .i64 a)) rfl (by kernel_rfl) (by rfl) ?run9 ⟨b75,x05,x15⟩ ?next9
       case run9=>go_simp
       clear qj fj B5 x04 x14 b74 b75 x05 x15 P4;refine layy ?_;refine' wpAnyR_take (i:=10) (v:=?v10_2127) (fun _=>rfl) (fun _ _ _ h k=>h.trans k) rfl (by kernel_rfl) (by kernel_rfl) (by kernel_rfl) (fun _ _ _ h=>h) (Or.inl (Or.inl ⟨by rfl, ?hy10_2127⟩)) ?rest10_2127
       case hy10_2127=>(intro w _;go_simp;try with_reducible rfl)
       refine layy ?_;refine wpAnyR_done (by kernel_rfl) ?_ _;intro w6 e6 _;rw [e6] at P5;clear e6
       by_cases e0:er1=0
       · subst e0
         go_wp2_with fail
         go_roundg (n3-(j+1))
         case measure=>omega
         case rel=>exact ⟨j+1,S1,A ++ [a],by omega,Nat.le_refl _,by go_num,P5,(show Aside _ from by rw [List.length_append,AL.out];rfl),(show Nd.putE S d.ends []=Nd.putE S1 (d.ends.drop (j+1)) (A ++ [a]) from by rw [EQ.out,Nd.drop_cons HV.out];simp [Nd.putE,H1.out]),(show Aside _ from K1.out)⟩
       · have t0:(er1 != 0)=true:=by simpa using e0
         have HE0:=Lib.hid e0;clear e0
         go_wp2_with fail
         go_returns;have hput:Nd.put d S=some (0,er1,S1):=by
          unfold Nd.put;rw [EQ.out,Nd.drop_cons HV.out];simp [Nd.putE,H1.out,HE0.out]
         have:=HP.out;rw [hput] at this;simp only [Option.some.injEq,Prod.mk.injEq] at this;obtain ⟨rfl,rfl,rfl⟩:=this;exact ⟨rfl,P5.out.now⟩
     · have:j=n3:=by omega
       subst this;have tk:decide ((j:Int) < (j:Int))=false:=decide_eq_false (by omega);have EQ2:Nd.putE S d.ends []=some (0,A,Sj):=by
        rw [EQ.out,List.drop_of_length_le (by rw [HQ.out.1];exact Nat.le_refl _)];rfl
       have HPU:=Lib.hid (show ∀ e N Sn,Nd.putN A Sj d.nodes []=some (e,N,Sn) → Nd.put d S=(if e ≠ 0 then some (0,e,Sn) else some (Nd.toA A N d.root,0,Sn)) from fun e N Sn h=>by
        unfold Nd.put;rw [EQ2];simp [h])
       rw [Nat.sub_self,List.replicate_zero,List.append_nil] at PJ;have PJ0:Hid (PtSt w wr hd Sj ⟨ps,cs,po,co,pe,ce,pn,cn,K⟩ d gd g7 g8 ge gn A ([] ++ List.replicate (n4-0) 0)):=PJ;have b3:=PJ.out.d3;rw [HQ.out.2.1] at b3;simp only at b3;clear EQ EQ2 PJ
       go_wp2_with fail
       clear b3
       go_loopg [78] n4 (fun g' iv wr=>∃ (i:Nat) (Si:Hp.Hs) (N:List Int),i ≤ n4 ∧ n4-i ≤ g' ∧ iv = .int .i64 i ∧ Hid (PtSt w wr hd Si ⟨ps,cs,po,co,pe,ce,pn,cn,K⟩ d gd g7 g8 ge gn A (N ++ List.replicate (n4-i) 0)) ∧ Aside (N.length=i) ∧ Aside (Nd.putN A Sj d.nodes []=Nd.putN A Si (d.nodes.drop i) N) ∧ Aside (Hp.Good Si B))
       case atStart=>exact ⟨0,Sj,[],Nat.zero_le _,by omega,rfl,PJ0,rfl,rfl,GJ.out⟩
       case round=>
        obtain ⟨i,Si,N,hi,hg2,rfl,PI,NL,EN,GI⟩:=hrel;clear PJ0
        by_cases hlti:i < n4
        · have tki:decide ((i:Int) < (n4:Int))=true:=decide_eq_true (by omega);obtain ⟨q,hq⟩:=get_list (E:=d.nodes) (j:=i) (by rw [HQ.out.2.1];exact hlti);obtain ⟨⟨kp,kc⟩,hkk⟩:=get_list (E:=K) (j:=i) (by have:=PI.out.rd.kl;simp only at this;rw [this,HQ.out.2.1];exact hlti);obtain ⟨bn,on,hpn,hbn,hcn⟩:=PI.out.rd.node_cells (by rw [HQ.out.2.1];omega);simp only at hpn;subst hpn;obtain ⟨q1,q2⟩:=hcn i q _ hq hkk;have SK:=PI.out.rd.ks i q _ hq hkk;have hqm:=List.mem_of_getElem? hq;have hq0:0 < q.2.length:=List.length_pos_iff.2 (HIN.out.k0 q hqm);have hq12:=HIN.out.k12 q hqm;have hqv:=HIN.out.var q hqm
          have hlow:∀ k ∈ q.2,d.Ref k i:=fun k hk=>HIN.out.low i (by rw [HQ.out.2.1];exact hlti) k (by
           have:d.nodeAt i=q:=by unfold Nd.Dia.nodeAt;rw [hq];rfl
           rw [this];exact hk)
          obtain ⟨bk,okk,ekp,hbk,hck⟩:=SK.cells hq0;simp only at ekp;subst ekp;have skle:=SK.le;have skcap:=SK.cap;obtain ⟨v,ks⟩:=q;simp only at q1 q2 hq0 hq12 hqv hlow hck skle skcap;obtain ⟨nk,hnk⟩:∃ n,ks.length=n:=⟨_,rfl⟩
          have HNK:=Lib.hid hnk;rw [hnk] at q2 hq0 hq12 skle;have HLOW:=Lib.hid hlow;have HQQ:=Lib.hid hq;have HKK:=Lib.hid hkk;have hbdA:∀ x ∈ A,-9223372036854775808 ≤ x ∧ x ≤ 9223372036854775807:=PI.out.ra.wf
          have hbdN:∀ x ∈ N,-9223372036854775808 ≤ x ∧ x ≤ 9223372036854775807:=fun x hx=>PI.out.rn.wf x (List.mem_append.2 (.inl hx))
          have HTA:=Lib.hid (toA_in hbdA hbdN);obtain ⟨a,er1,S1,h1,k1,k2⟩:=Hp.make_good GI.out v (ks.map (Nd.toA A N));have sm:=make_wf PI.out.now.small (fun x hx=>by obtain ⟨k,_,rfl⟩:=List.mem_map.1 hx;exact HTA.out k) h1;have H1:=Lib.hid h1;have K1:=Lib.hid k1;have HSM:=Lib.hid sm
          have MA:=Lib.hid (fun W g (hA:HAt W hd Si) (hR:WordsAt W g (ks.map (Nd.toA A N))) (hgo:g ∉ hd.own)=>(by
           have:=Make_any hA (hR.sl (by rw [List.length_map,HNK.out];omega)) (fun b o e hm=>by cases e;exact hgo hm) hqv.1 hqv.2 H1.out;rw [List.length_map,HNK.out] at this;exact this:Calls Tryz.prog 44 #[.pointer (some ⟨hd.hb,0,none⟩),.int .i64 v,.slice (some ⟨g,0,none⟩) nk nk] W (Added hd W (a,er1,S1))))
          have hmk3:=run_make_row' (P:=Tryz.prog) 22 3 (.int .i64 0) 8 Tryz.underlying22 (show (Tryz.prog.info? 3).map (fun i=>(i.zero,i.size,i.bytes))=some (some (.int .i64 0),1,8) from by kernel_rfl) rfl .i64 .i64 nk (by omega) (by omega);clear hq hkk hcn SK hqm hlow hbk hck hnk hbdA hbdN h1 k1 k2 sm
          go_wp2_with fail
          clear hmk3;refine cut_world (F:=fun W=>Hid (PtSt w W hd Si ⟨ps,cs,po,co,pe,ce,some ⟨bn,on,none⟩,cn,K⟩ d gd g7 g8 ge gn A (N ++ List.replicate (n4-i) 0)) ∧ W.cell? ⟨wr.heap.size,0,none⟩=some (.int .i64 v) ∧ Hid (WordsAt W (wr.heap.size+1) (List.replicate nk 0))) ⟨Lib.hid (PI.out.ext exx),by go_simp,Lib.hid (made_at _ nk _ (by simp))⟩ ?_;intro w2 ⟨P2,x0,W2⟩;have GV:=Lib.hid (show ∀ b,wr.heap.size ≤ b → w.heap.size ≤ b ∧ b ∉ hd.own ∧ b ≠ gd ∧ b ≠ g7 ∧ b ≠ g8 ∧ b ≠ ge ∧ b ≠ gn from fun b hb=>by
           have h2:=PI.out.now.but.size;have h3:=cell_lt PI.out.d2;have h4:=cell_lt PI.out.b7;have h5:=cell_lt PI.out.b8;have h6:=PI.out.ra.lt;have h7:=PI.out.rn.lt;refine ⟨by omega,fun hm=>by have h1:=PI.out.hl _ hm;omega,by omega,by omega,by omega,by omega,by omega⟩)
          have GB:=Lib.hid (GV.out wr.heap.size (Nat.le_refl _));have GK:=Lib.hid (GV.out (wr.heap.size+1) (by omega));have BK:=Lib.hid (show wr.heap.size ≠ wr.heap.size+1 from by omega);clear q1 q2 GV;generalize wr.heap.size+1=gr at W2 GK BK ⊢;generalize wr.heap.size=bb at x0 GB BK ⊢;have PK0:Hid (PtSt w w2 hd Si ⟨ps,cs,po,co,pe,ce,some ⟨bn,on,none⟩,cn,K⟩ d gd g7 g8 ge gn A (N ++ List.replicate (n4-i) 0)):=P2;have W20:Hid (WordsAt w2 gr ((ks.map (Nd.toA A N)).take 0 ++ List.replicate (nk-0) 0)):=W2;have X0:Hid (w2.cell? ⟨bb,0,none⟩=some (.int .i64 v)):=Lib.hid x0;clear P2 W2 x0 PI
          go_loopg [90] nk (fun g'' kv ws=>∃ k:Nat,k ≤ nk ∧ nk-k ≤ g'' ∧ kv = .int .i64 k ∧ Hid (PtSt w ws hd Si ⟨ps,cs,po,co,pe,ce,some ⟨bn,on,none⟩,cn,K⟩ d gd g7 g8 ge gn A (N ++ List.replicate (n4-i) 0)) ∧ Hid (WordsAt ws gr ((ks.map (Nd.toA A N)).take k ++ List.replicate (nk-k) 0)) ∧ Hid (ws.cell? ⟨bb,0,none⟩=some (.int .i64 v)))
          case atStart=>exact ⟨0,Nat.zero_le _,by omega,rfl,PK0,W20,X0⟩
          case round=>
           obtain ⟨k,hkl,hgg,rfl,PK,WK,XK⟩:=hrel;clear PK0 W20 X0;have HTL:=Lib.hid (show ((ks.map (Nd.toA A N)).take k).length=k from by rw [List.length_take,List.length_map,HNK.out];omega)
           by_cases hltk:k < nk
           · have tkk:decide ((k:Int) < (nk:Int))=true:=decide_eq_true (by omega);obtain ⟨y,hy⟩:=get_list (E:=ks) (j:=k) (by rw [HNK.out];exact hltk);obtain ⟨bk',okk',ekp,hbk,hck⟩:=(PK.out.rd.ks i (v,ks) _ HQQ.out HKK.out).cells (by simp only;rw [HNK.out];omega);simp only at ekp hck
             cases ekp
             have gy:=hck k y hy;have href:=HLOW.out y (List.mem_of_getElem? hy);have b7:=PK.out.b7;have b8:=PK.out.b8;rw [HQ.out.1] at b7;rw [HQ.out.2.1] at b8;have P1:=Lib.hid (put1 (A:=A) (N:=N ++ List.replicate (n4-i) 0) (r:=y) AL.out (by rw [List.length_append,NL.out,List.length_replicate];omega) el nl b7 b8 PK.out.ra PK.out.rn (by have:=href.2;rw [HQ.out.1] at this;exact this) (by have:=href.1;omega));rw [toA_rep (by have:=href.1;rw [NL.out];exact this)] at P1;have HHY:=Lib.hid hy;clear hck hbk hy href b7 b8
             go_wp2_with fail
             refine Calls.mono P1.out ?_;rintro e w4 ⟨rfl,hE4⟩;have P4:=Lib.hid (PK.out.ext hE4);have W4:=Lib.hid (WK.out.ext hE4);have X4:=Lib.hid ((hE4.cell (cell_lt XK.out) 0).trans XK.out);have qk:=W4.out.get (rep_get HTL.out hltk);have fk:=W4.out.froz k;have htb:=HTA.out y;have W5:=Lib.hid (W4.out.set (rep_set (x:=Nd.toA A N y) HTL.out hltk) htb.1 htb.2);have B5:But [gr] w4 (w4.setCell ⟨gr,k,none⟩ (.int .i64 (Nd.toA A N y))):=(But.refl _ _).setCell (.inl (by simp)) _;have P5:=Lib.hid (P4.out.far B5 (fun b hb=>by
              rw [List.mem_singleton.1 hb];obtain ⟨g1,g2,g3,g4,g5,g6,g7⟩:=GK.out;exact ⟨g1,g3,g4,g5,g6,g7⟩))
             have X5:Hid ((w4.setCell ⟨gr,k,none⟩ (.int .i64 (Nd.toA A N y))).cell? ⟨bb,0,none⟩=some (.int .i64 v)):=Lib.hid ((B5.cell (cell_lt X4.out) (by simpa using BK.out) 0).trans X4.out);clear hE4 gy P1 B5 htb
             go_wp2_with fail
             go_roundg (nk-(k+1))
             case measure=>omega
             case rel=>exact ⟨k+1,by omega,Nat.le_refl _,by go_num,P5,(by
              have e:(ks.map (Nd.toA A N)).take (k+1)=(ks.map (Nd.toA A N)).take k ++ [Nd.toA A N y]:=by
               rw [List.take_add_one,List.getElem?_map,HHY.out];rfl
              rw [e];exact W5),X5⟩
           · have:k=nk:=by omega
             subst this;have tkk:decide ((k:Int) < (k:Int))=false:=decide_eq_false (by omega);have WF:Hid (WordsAt wr gr (ks.map (Nd.toA A N))):=by
              have h1:=WK.out;rw [List.take_of_length_le (by rw [List.length_map,HNK.out];exact Nat.le_refl _),Nat.sub_self,List.replicate_zero,List.append_nil] at h1;exact Lib.hid h1
             have b8:=PK.out.b8;rw [HQ.out.2.1] at b8;have x0:=XK.out;clear WK HTL;go_upto_region 27 with fail
             refine wp_region_seq (S:=fun W=>W.cell? ⟨g8,0,none⟩=some (.slice (some ⟨gn,0,none⟩) n4 n4) ∧ W.cell? ⟨bb,0,none⟩=some (.int .i64 v)) (R:=Eq) (by kernel_rfl) (fun _=>rfl) ?_ ?_
             · exact ⟨b8,x0⟩
             refine' wpAnyR_take (i:=0) (v:=?v0_2128) (fun _=>rfl) (fun _ _ _ h k=>h.trans k) rfl (by kernel_rfl) (by kernel_rfl) (by kernel_rfl) (fun _ _ _ h=>h) (Or.inl (Or.inl ⟨by rfl, ?hy0_2128⟩)) ?rest0_2128
             case hy0_2128=>(intro w hSw;(obtain ⟨s1,s2⟩:=hSw);go_simp;try with_reducible rfl)
             refine layy ?_;refine' wpAnyR_take (i:=1) (v:=?v1_2129) (fun _=>rfl) (fun _ _ _ h k=>h.trans k) rfl (by kernel_rfl) (by kernel_rfl) (by kernel_rfl) (fun _ _ _ h=>h) (Or.inl (Or.inl ⟨by rfl, ?hy1_2129⟩)) ?rest1_2129
             case hy1_2129=>(intro w hSw;(obtain ⟨s1,s2⟩:=hSw);go_simp;try with_reducible rfl)
             refine layy ?_;refine' wpAnyR_take (i:=2) (v:=?v2_2130) (fun _=>rfl) (fun _ _ _ h k=>h.trans k) rfl (by kernel_rfl) (by kernel_rfl) (by kernel_rfl) (fun _ _ _ h=>h) (Or.inl (Or.inl ⟨by rfl, ?hy2_2130⟩)) ?rest2_2130
             case hy2_2130=>(intro w hSw;(obtain ⟨s1,s2⟩:=hSw);go_simp;try with_reducible rfl)
             refine layy ?_;refine' wpAnyR_take (i:=3) (v:=?v3_2131) (fun _=>rfl) (fun _ _ _ h k=>h.trans k) rfl (by kernel_rfl) (by kernel_rfl) (by kernel_rfl) (fun _ _ _ h=>h) (Or.inl (Or.inl ⟨by rfl, ?hy3_2131⟩)) ?rest3_2131
             case hy3_2131=>(intro w hSw;(obtain ⟨s1,s2⟩:=hSw);go_simp;try with_reducible rfl)
             refine layy ?_;refine' wpAnyR_take (i:=4) (v:=?v4_2132) (fun _=>rfl) (fun _ _ _ h k=>h.trans k) rfl (by kernel_rfl) (by kernel_rfl) (by kernel_rfl) (fun _ _ _ h=>h) (Or.inl (Or.inl ⟨by rfl, ?hy4_2132⟩)) ?rest4_2132
             case hy4_2132=>(intro w hSw;(obtain ⟨s1,s2⟩:=hSw);go_simp;try with_reducible rfl)
             refine layy ?_;refine' wpAnyR_take (i:=5) (v:=?v5_2133) (fun _=>rfl) (fun _ _ _ h k=>h.trans k) rfl (by kernel_rfl) (by kernel_rfl) (by kernel_rfl) (fun _ _ _ h=>h) (Or.inl (Or.inl ⟨by rfl, ?hy5_2133⟩)) ?rest5_2133
             case hy5_2133=>(intro w hSw;(obtain ⟨s1,s2⟩:=hSw);go_simp;try with_reducible rfl)
             refine layy ?_;refine wpAnyE_call 6 (f:=44) (args:=#[.pointer (some ⟨hd.hb,0,none⟩),.int .i64 v,.slice (some ⟨gr,0,none⟩) k k]) rfl (by kernel_rfl) (by rfl) ?run6 ?call6
             case run6=>go_simp
             have PKd:=Lib.hid (PK.out.ext (Ext.drew (Ext.refl wr)));have WFd:=Lib.hid (WF.out.ext (Ext.drew (Ext.refl wr)));refine (MA.out _ gr PKd.out.now.toHAt WFd.out GK.out.2.1).mono ?_;rintro e6 w6 ⟨rfl,N6⟩;have P6:=Lib.hid (PKd.out.heap N6);have b86:=P6.out.b8;rw [HQ.out.2.1] at b86;have x06:=(N6.but.cell (cell_lt (show wr.drew.cell? ⟨bb,0,none⟩=_ from x0)) GB.out.2.1 0).trans x0;refine ⟨.tuple #[.int .i64 a,.int .i64 er1],rfl,⟨b86,x06⟩, ?_⟩;clear N6 x0 b8 PK PKd WF WFd MA;refine layy ?_;refine' wpAnyR_take (i:=7) (v:=?v7_2134) (fun _=>rfl) (fun _ _ _ h k=>h.trans k) rfl (by kernel_rfl) (by kernel_rfl) (by kernel_rfl) (fun _ _ _ h=>h) (Or.inl (Or.inl ⟨by rfl, ?hy7_2134⟩)) ?rest7_2134
             case hy7_2134=>(intro w _;go_simp;try with_reducible rfl)
             refine layy ?_;refine' wpAnyR_take (i:=8) (v:=?v8_2135) (fun _=>rfl) (fun _ _ _ h k=>h.trans k) rfl (by kernel_rfl) (by kernel_rfl) (by kernel_rfl) (fun _ _ _ h=>h) (Or.inl (Or.inl ⟨by rfl, ?hy8_2135⟩)) ?rest8_2135
             case hy8_2135=>(intro w _;go_simp;try with_reducible rfl)
             refine layy ?_;refine' wpAnyR_take (i:=9) (v:=?v9_2136) (fun _=>rfl) (fun _ _ _ h k=>h.trans k) rfl (by kernel_rfl) (by kernel_rfl) (by kernel_rfl) (fun _ _ _ h=>h) (Or.inl (Or.inl ⟨by rfl, ?hy9_2136⟩)) ?rest9_2136
             case hy9_2136=>(intro w _;go_simp;try with_reducible rfl)
             refine layy ?_;refine' wpAnyR_take (i:=10) (v:=?v10_2137) (fun _=>rfl) (fun _ _ _ h k=>h.trans k) rfl (by kernel_rfl) (by kernel_rfl) (by kernel_rfl) (fun _ _ _ h=>h) (Or.inl (Or.inl ⟨by rfl, ?hy10_2137⟩)) ?rest10_2137
             case hy10_2137=>(intro w _;go_simp;try with_reducible rfl)
             refine layy ?_;have qi:=P6.out.rn.get (rep_get NL.out hlti);have fi:=P6.out.rn.froz i;have P7:=Lib.hid (P6.out.setN (rep_set (x:=a) NL.out hlti) HSM.out.1 HSM.out.2.1);have b87:=P7.out.b8;rw [HQ.out.2.1] at b87;have B7:But [gn] w6 (w6.setCell ⟨gn,i,none⟩ (.int .i64 a)):=(But.refl _ _).setCell (.inl (by simp)) _;have x07:=(B7.cell (cell_lt x06) (by simpa using GB.out.2.2.2.2.2.2) 0).trans x06;refine wpAnyE_put 11 (w':=w6.setCell ⟨gn,i,none⟩ (.int .i64 a)) rfl (by kernel_rfl) (by rfl) ?run11 ⟨b87,x07⟩ ?next11
             case run11=>go_simp
             clear qi fi B7 x06 b86 b87 x07 P6;refine layy ?_;refine' wpAnyR_take (i:=12) (v:=?v12_2138) (fun _=>rfl) (fun _ _ _ h k=>h.trans k) rfl (by kernel_rfl) (by kernel_rfl) (by kernel_rfl) (fun _ _ _ h=>h) (Or.inl (Or.inl ⟨by rfl, ?hy12_2138⟩)) ?rest12_2138
             case hy12_2138=>(intro w _;go_simp;try with_reducible rfl)
             refine layy ?_;refine wpAnyR_done (by kernel_rfl) ?_ _;intro w8 e8 _;rw [e8] at P7;clear e8;have hqq:d.nodes.drop i=(v,ks) :: d.nodes.drop (i+1):=Nd.drop_cons HQQ.out;have HDR:=Lib.hid hqq;clear hqq
             by_cases e0:er1=0
             · subst e0
               go_wp2_with fail
               go_roundg (n4-(i+1))
               case measure=>omega
               case rel=>exact ⟨i+1,S1,N ++ [a],by omega,Nat.le_refl _,by go_num,P7,(show Aside _ from by rw [List.length_append,NL.out];rfl),(show Nd.putN A Sj d.nodes []=Nd.putN A S1 (d.nodes.drop (i+1)) (N ++ [a]) from by rw [EN.out,HDR.out];simp [Nd.putN,H1.out]),(show Aside _ from K1.out)⟩
             · have t0:(er1 != 0)=true:=by simpa using e0
               have HE0:=Lib.hid e0;clear e0
               go_wp2_with fail
               go_returns;have hput:Nd.put d S=some (0,er1,S1):=by
                rw [HPU.out er1 N S1 (by rw [EN.out,HDR.out];simp [Nd.putN,H1.out,HE0.out]),if_pos HE0.out]
               have:=HP.out;rw [hput] at this;simp only [Option.some.injEq,Prod.mk.injEq] at this;obtain ⟨rfl,rfl,rfl⟩:=this;exact ⟨rfl,P7.out.now⟩
        · have:i=n4:=by omega
          subst this;have tki:decide ((i:Int) < (i:Int))=false:=decide_eq_false (by omega);have EN2:Nd.putN A Sj d.nodes []=some (0,N,Si):=by
           rw [EN.out,List.drop_of_length_le (by rw [HQ.out.2.1];exact Nat.le_refl _)];rfl
          rw [Nat.sub_self,List.replicate_zero,List.append_nil] at PI;have b7:=PI.out.b7;have b8:=PI.out.b8;have b4:=PI.out.d4;rw [HQ.out.1] at b7;rw [HQ.out.2.1] at b8;rw [HQ.out.2.2] at b4;have HRT:=HROOT.out;rw [HQ.out.2.2,HQ.out.2.1] at HRT;have P1:=Lib.hid (put1 (A:=A) (N:=N) (r:=rt) AL.out NL.out el nl b7 b8 PI.out.ra PI.out.rn (by have:=HRT.2;rw [HQ.out.1] at this;exact this) HRT.1);have hput:Nd.put d S=some (Nd.toA A N rt,0,Si):=by
           rw [HPU.out 0 N Si EN2,if_neg (by simp),HQ.out.2.2]
          have HPT:=Lib.hid hput;clear EN EN2 HRT hput b7 b8
          go_wp2_with fail
          refine Calls.mono P1.out ?_;rintro e w4 ⟨rfl,hE4⟩
          go_wp2_with fail
          go_returns;have:=HP.out;rw [HPT.out] at this;simp only [Option.some.injEq,Prod.mk.injEq] at this;obtain ⟨rfl,rfl,rfl⟩:=this;exact ⟨rfl,(PI.out.ext hE4).now⟩
theorem Diagram_none {w:World} {d:Hd} {S:Hp.Hs} (h:HAt w d S) {x:Int} (hb:S.has x=false) (h1 : -9223372036854775808 ≤ x) (h2:x ≤ 9223372036854775807) :
    Calls Tryz.prog 23 #[.pointer (some ⟨d.hb,0,none⟩),.int .i64 x] w fun e w'=>e = .returned (.tuple #[.agg #[.slice none 0 0,.slice none 0 0,.slice none 0 0,.slice none 0 0,.int .i64 0],.int .i64 7]) ∧ Ext w w':=by
  have H:=Lib.hid h;have HB:=Lib.hid hb;clear h hb;go_enter Tryz.func23,Tryz.ntmps23
  go_wp2_with (go_at_call 77;refine (open_no (H.out.ext (exx)) HB.out h1 h2).mono ?_;rintro e w1 ⟨rfl,hb1⟩;obtain ⟨hc1,hf1,hs1⟩:=hb1.cells;have hz1_0:w.heap.size < w1.heap.size:=(by have h:=hb1.le;(try simp at h);omega);have hc1_0:=hb1.cell (b:=w.heap.size) (by first | omega | (simp;done) | (simp;omega));have hf1_0:=hb1.frozen (b:=w.heap.size) (by first | omega | (simp;done) | (simp;omega));have hz1_1:w.heap.size+1 < w1.heap.size:=(by have h:=hb1.le;(try simp at h);omega);have hc1_1:=hb1.cell (b:=w.heap.size+1) (by first | omega | (simp;done) | (simp;omega));have hf1_1:=hb1.frozen (b:=w.heap.size+1) (by first | omega | (simp;done) | (simp;omega)))
  refine bodyPost_ret (v:=.tuple #[.agg #[.slice none 0 0,.slice none 0 0,.slice none 0 0,.slice none 0 0,.int .i64 0],.int .i64 7]) (by simp [results,Tryz.results23,go_sem, *]) rfl ?_;exact ⟨rfl,exx⟩
theorem RdN.lit {w:World} {n g c:Nat} {X:List (List Value)} (hl:X.length ≤ c) (hc:c ≤ 9223372036854775807) (hg:g < w.heap.size) (h:∀ j x i v,X[j]? = some x → x[i]? = some v → w.cell? ⟨g,j * n+i,none⟩=some v):RdN w n (some ⟨g,0,none⟩) c X:=
 ⟨hl,hc,fun _=>⟨g,0,rfl,hg,fun j x i v hx hv=>by rw [Nat.zero_add];exact h j x i v hx hv⟩⟩
theorem RdN.none_ (w:World) (n:Nat):RdN w n none 0 []:=⟨Nat.le_refl _,by omega,fun h=>by simp at h⟩
theorem SliceAt.nil_ (w:World):SliceAt w none 0 []:=⟨Nat.le_refl _,by omega,by simp,fun h=>by simp at h⟩
theorem lit_d2 (w:World):DgRd (w.alloc (.cells #[.int .u8 0,.int .i64 0] 43)) ⟨none,0,none,0,some ⟨w.heap.size,0,none⟩,1,none,0,[]⟩ [] [] [(0,0)] [] where
 s:=SliceAt.nil_ _
 o:=SliceAt.nil_ _
 e:=RdN.lit (by simp) (by simp) (by simp) fun j x i v hx hv=>by
  match j,hx with
  | 0,hx=>
   simp [endC] at hx;subst hx
   match i,hv with
   | 0,hv=>simp at hv;subst hv;simp [go_sem]
   | 1,hv=>simp at hv;subst hv;simp [go_sem]
   | i+2,hv=>simp at hv
  | j+1,hx=>simp at hx
 n:=RdN.none_ _ _
 kl:=rfl
 ks:=fun j q k h=>by simp at h
def litW (w:World):World:=((((w.alloc (.cells #[.int .i64 2,.int .i64 2] 3)).alloc (.cells #[.int .i64 0,.int .i64 1] 3)).alloc (.cells #[.int .u8 0,.int .i64 5,.int .u8 0,.int .i64 7] 43)).alloc (.cells #[.int .i64 (-1),.int .i64 (-2)] 3)).alloc (.cells #[.int .i64 1,.slice (some ⟨w.heap.size+1+1+1,0,none⟩) 2 2] 41)
def litL (w:World):DgL:=⟨some ⟨w.heap.size,0,none⟩,2,some ⟨w.heap.size+1,0,none⟩,2,some ⟨w.heap.size+1+1,0,none⟩,2,some ⟨w.heap.size+1+1+1+1,0,none⟩,1,[(some ⟨w.heap.size+1+1+1,0,none⟩,2)]⟩
theorem litW_ext (w:World):Ext w (litW w):=by
 unfold litW
 exact exx
theorem lit_at2 {w:World} {g:Nat} {x y:Int} (hx : -9223372036854775808 ≤ x ∧ x ≤ 9223372036854775807) (hy : -9223372036854775808 ≤ y ∧ y ≤ 9223372036854775807) (hg:g < w.heap.size) (c0:w.cell? ⟨g,0,none⟩=some (.int .i64 x)) (c1:w.cell? ⟨g,1,none⟩=some (.int .i64 y)):SliceAt w (some ⟨g,0,none⟩) 2 [x,y]:=by
 refine ⟨by simp,by omega,fun z hz=>?_,fun _=>⟨g,0,rfl,hg,fun j z hj=>?_⟩⟩
 · rcases List.mem_cons.1 hz with rfl | hz
   · exact hx
   · have:z=y:=by simpa using hz
     subst this;exact hy
 · match j,hj with
   | 0,hj=>simp [Hp.rd] at hj;subst hj;exact c0
   | 1,hj=>simp [Hp.rd] at hj;subst hj;exact c1
   | j+2,hj=>simp [Hp.rd] at hj
theorem lit_d (w:World):DgRd (litW w) (litL w) [2,2] [0,1] [(0,5),(0,7)] [(1,[-1,-2])] where
 s:=by unfold litW litL;exact lit_at2 (by omega) (by omega) (by simp;omega) (by simp [go_sem]) (by simp [go_sem])
 o:=by unfold litW litL;exact lit_at2 (by omega) (by omega) (by simp) (by simp [go_sem]) (by simp [go_sem])
 e:=by
  unfold litW litL;refine RdN.lit (by simp) (by simp) (by simp) fun j x i v hx hv=>?_
  match j,hx with
  | 0,hx=>
   simp [endC] at hx;subst hx
   match i,hv with
   | 0,hv=>simp at hv;subst hv;simp [go_sem]
   | 1,hv=>simp at hv;subst hv;simp [go_sem]
   | i+2,hv=>simp at hv
  | 1,hx=>
   simp [endC] at hx;subst hx
   match i,hv with
   | 0,hv=>simp at hv;subst hv;simp [go_sem]
   | 1,hv=>simp at hv;subst hv;simp [go_sem]
   | i+2,hv=>simp at hv
  | j+2,hx=>simp at hx
 n:=by
  unfold litW litL;refine RdN.lit (by simp) (by simp) (by simp) fun j x i v hx hv=>?_
  match j,hx with
  | 0,hx=>
   simp [nodeC] at hx;subst hx
   match i,hv with
   | 0,hv=>simp at hv;subst hv;simp [go_sem]
   | 1,hv=>simp at hv;subst hv;simp [go_sem]
   | i+2,hv=>simp at hv
  | j+1,hx=>simp at hx
 kl:=rfl
 ks:=fun j q k hq hk=>by
  match j,hq,hk with
  | 0,hq,hk=>
   simp [litL] at hq hk;subst hq hk;unfold litW;exact lit_at2 (by omega) (by omega) (by simp) (by simp [go_sem]) (by simp [go_sem])
  | j+1,hq,hk=>simp at hq
theorem lit_zeros (w:World) (n:Nat) (hn:n ≤ 1000000):SliceAt (w.alloc (.cells (madeCells #[.int .i64 0] n) 3)) (some ⟨w.heap.size,0,none⟩) n (List.replicate n 0):=
 ⟨by simp,by omega,fun z hz=>by have:=List.eq_of_mem_replicate hz;omega,fun _=>⟨w.heap.size,0,rfl,by simp,fun j z hj=>by rw [Nat.zero_add];exact (made_words w n).get hj⟩⟩
theorem numD (L:DgL):DgNumN Nm.D L where
 f:=by simp [Nm.D]
 el:=by simp [Nm.D]
 nl:=by simp [Nm.D]
 kids:=by simp [Nm.D]
 root:=by simp [Nm.D]
 el1:=by simp [Nm.D]
 nl1:=by simp [Nm.D]
 ol:=by simp [Nm.D]
 on:=.inl (by simp [Nm.D])
 ends:=by simp [Nm.D]
 vars:=by simp [Nm.D]
theorem numD2 (L:DgL) (h:L.po=none):DgNumN Nm.D2 L where
 f:=by simp [Nm.D2]
 el:=by simp [Nm.D2]
 nl:=by simp [Nm.D2]
 kids:=by simp [Nm.D2]
 root:=by simp [Nm.D2]
 el1:=by simp [Nm.D2]
 nl1:=by simp [Nm.D2]
 ol:=by simp [Nm.D2]
 on:=.inr h
 ends:=by simp [Nm.D2]
 vars:=by simp [Nm.D2]
theorem put_27 {W:World} {h:Hd} {L:DgL} (hA:HAt W h Nm.K3) (hr:DgRd W L [2,2] [0,1] [(0,5),(0,7)] [(1,[-1,-2])]) (hb:∀ b ∈ L.blocks,b < W.heap.size ∧ b ∉ h.own) :
    Calls Tryz.prog 37 #[.pointer (some ⟨h.hb,0,none⟩),.agg #[.slice L.ps 2 L.cs,.slice L.po 2 L.co,.slice L.pe 2 L.ce,.slice L.pn 1 L.cn,.int .i64 0]] W fun r w'=>r = .returned (.tuple #[.int .i64 27,.int .i64 0]) ∧ Now W w' h Nm.K3:=by
  obtain ⟨B,hg⟩:=Nm.kg;have k:=put_good (d:=Nm.D) hA hr (numD L) Nm.ch Nm.ks.symm Nm.ko.symm hg hb Nm.pu;exact k
theorem put_two {w:World} {h:Hd} (hA:HAt (w.alloc (.cells #[.int .u8 0,.int .i64 0] 43)) h Nm.K3) :
    Calls Tryz.prog 37 #[.pointer (some ⟨h.hb,0,none⟩),.agg #[.slice none 0 0,.slice none 0 0,.slice (some ⟨w.heap.size,0,none⟩) 1 1,.slice none 0 0,.int .i64 (-1)]] (w.alloc (.cells #[.int .u8 0,.int .i64 0] 43)) fun r w'=>r = .returned (.tuple #[.int .i64 0,.int .i64 2]) ∧ Now (w.alloc (.cells #[.int .u8 0,.int .i64 0] 43)) w' h Nm.K3:=by
  have k:=put_arg (d:=Nm.D2) hA (lit_d2 w) (numD2 _ rfl) Nm.ch2 (by rw [Nm.ks];simp [Nm.D2]);exact k
theorem name_world {P:Program} {cd:Code} {Q:Exit → Act → World → Prop} {a:Act} {w:World} {F:World → Prop} (h:F w) (k:∀ W,F W → cd.wp P Q a W):cd.wp P Q a w:=k w h
theorem lit_ones (w:World) {x y:Int} (hx : -9223372036854775808 ≤ x ∧ x ≤ 9223372036854775807) (hy : -9223372036854775808 ≤ y ∧ y ≤ 9223372036854775807) (t:TypeId):SliceAt ((w.alloc (.cells #[.int .i64 x] t)).alloc (.cells #[.int .i64 y] t)) (some ⟨w.heap.size,0,none⟩) 1 [x] ∧ SliceAt ((w.alloc (.cells #[.int .i64 x] t)).alloc (.cells #[.int .i64 y] t)) (some ⟨w.heap.size+1,0,none⟩) 1 [y]:=by
 refine ⟨(SliceAt.one w x hx.1 hx.2 t).ext (Ext.alloc (Ext.refl _) _), ?_⟩
 have h:=SliceAt.one (w.alloc (.cells #[.int .i64 x] t)) y hy.1 hy.2 t
 have e:(w.alloc (.cells #[.int .i64 x] t)).heap.size=w.heap.size+1:=by simp
 rw [e] at h
 exact h
theorem new_three (w:World):Calls Tryz.prog 36 #[.slice (some ⟨w.heap.size,0,none⟩) 1 1,.slice (some ⟨w.heap.size+1,0,none⟩) 1 1,.int .i64 31] ((w.alloc (.cells #[.int .i64 2] 3)).alloc (.cells #[.int .i64 0] 3)) fun e w'=>e = .returned (.tuple #[.pointer none,.int .i64 3]) ∧ Ext ((w.alloc (.cells #[.int .i64 2] 3)).alloc (.cells #[.int .i64 0] 3)) w':=by
 obtain ⟨h1,h2⟩:=lit_ones w (x:=2) (y:=0) (by omega) (by omega) 3
 have:=New_err (words:=31) h1 h2 (.inl (by simp)) (by simp) (by rw [Nm.n1];omega)
 rw [Nm.n1] at this
 exact this
theorem new_four (w:World):Calls Tryz.prog 36 #[.slice (some ⟨w.heap.size,0,none⟩) 1 1,.slice (some ⟨w.heap.size+1,0,none⟩) 1 1,.int .i64 31] ((w.alloc (.cells #[.int .i64 2] 3)).alloc (.cells #[.int .i64 1] 3)) fun e w'=>e = .returned (.tuple #[.pointer none,.int .i64 4]) ∧ Ext ((w.alloc (.cells #[.int .i64 2] 3)).alloc (.cells #[.int .i64 1] 3)) w':=by
 obtain ⟨h1,h2⟩:=lit_ones w (x:=2) (y:=1) (by omega) (by omega) 3
 have:=New_err (words:=31) h1 h2 (.inl (by simp)) (by simp) (by rw [Nm.n2];omega)
 rw [Nm.n2] at this
 exact this
theorem load_four (w:World):Calls Tryz.prog 16 #[.slice (some ⟨w.heap.size,0,none⟩) 1 1,.slice (some ⟨w.heap.size+1,0,none⟩) 1 1,.slice (some ⟨w.heap.size+1+1,0,none⟩) 32 32] (((w.alloc (.cells #[.int .i64 2] 3)).alloc (.cells #[.int .i64 0] 3)).alloc (.cells (madeCells #[.int .i64 0] 32) 3)) fun e w'=>e = .returned (.tuple #[.pointer none,.int .i64 4]) ∧ Ext (((w.alloc (.cells #[.int .i64 2] 3)).alloc (.cells #[.int .i64 0] 3)).alloc (.cells (madeCells #[.int .i64 0] 32) 3)) w':=by
 obtain ⟨h1,h2⟩:=lit_ones w (x:=2) (y:=0) (by omega) (by omega) 3
 have h3:=lit_zeros ((w.alloc (.cells #[.int .i64 2] 3)).alloc (.cells #[.int .i64 0] 3)) 32 (by omega)
 have e:((w.alloc (.cells #[.int .i64 2] 3)).alloc (.cells #[.int .i64 0] 3)).heap.size=w.heap.size+1+1:=by simp
 rw [e] at h3
 have l1:Nm.Z.words.length=32:=by kernel_rfl
 have l2:Nm.Z.sizes.length=1:=rfl
 have l3:Nm.Z.order.length=1:=rfl
 have:=Load_stop (S:=Nm.Z) (h1.ext (Ext.alloc (Ext.refl _) (.cells (madeCells #[.int .i64 0] 32) 3))) (h2.ext (Ext.alloc (Ext.refl _) (.cells (madeCells #[.int .i64 0] 32) 3))) h3 (.inl (by rw [l2];omega)) (.inl (by rw [l3];omega)) ⟨by rw [l2];omega,by simp [Nm.Z]⟩ (by rw [l3];omega) (by rw [l1];omega) (by rw [l1];omega) Nm.zw (by kernel_rfl)
 rw [l1,l2,l3] at this
 exact this
end Go.Proofs.YtdokmmhjmclmnaaGreat
