/-
  Part 32 of a proof: PD2 PD3.
-/
import Derived.Test.YtdokmmhjmclmnaaGreatMB09
import Derived.Test.YtdokmmhjmclmnaaGreatMB21
import Derived.Test.YtdokmmhjmclmnaaGreatMB29
import Derived.Test.YtdokmmhjmclmnaaGreatMB31
set_option linter.unusedSimpArgs false
set_option linter.unusedVariables false
set_option linter.unusedSectionVars false
set_option linter.unnecessarySimpa false
namespace Go.Proofs.YtdokmmhjmclmnaaGreat
open Go.RowKit Go.Maps
structure DgIn (d:Nd.Dia):Prop where
 zl:d.sizes.length ≤ 6
 el:d.ends.length ≤ 1000000
 nl:d.nodes.length ≤ 1000000
 f:∀ v ∈ d.ends,0 ≤ v.1
 kids:∀ q ∈ d.nodes,∀ k ∈ q.2,-9223372036854775808 ≤ k ∧ k ≤ 9223372036854775807
 root : -9223372036854775808 ≤ d.root ∧ d.root ≤ 9223372036854775807
def kidB (d:Nd.Dia) (i:Nat) (k:Int):Bool:=refB k i d.ends.length && decide (¬ rankO d k ≤ rankO d i)
def branchB (d:Nd.Dia) (i:Nat):Bool:=Hp.within 0 ((d.sizes.length:Int)-1) (d.nodeAt i).1 && decide (((d.nodeAt i).2.length:Int)=d.sizes.getD (d.nodeAt i).1.toNat 0) && (d.nodeAt i).2.all (kidB d i)
def looseB (d:Nd.Dia):Bool:=d.ends.all cellOk && (List.range d.nodes.length).all (branchB d) && refB d.root d.nodes.length d.ends.length
theorem all_false {α:Type} {l:List α} {p:α → Bool} {j:Nat} {x:α} (h:l[j]? = some x) (hp:p x=false):l.all p=false:=by
 rw [List.all_eq_false]
 exact ⟨x,List.mem_of_getElem? h,by simp [hp]⟩
theorem all_true {α:Type} {l:List α} {p:α → Bool} (h:∀ (m:Nat) (x:α),l[m]? = some x → p x=true):l.all p=true:=by
 rw [List.all_eq_true]
 intro x hx
 obtain ⟨m,hm⟩:=List.mem_iff_getElem?.1 hx
 exact h m x hm
theorem loose_no_branch {d:Nd.Dia} {i:Nat} (hi:i < d.nodes.length) (h:branchB d i=false):looseB d=false:=by
 unfold looseB
 rw [all_false (l:=List.range d.nodes.length) (j:=i) (x:=i) (by rw [List.getElem?_range hi]) h]
 simp
set_option maxRecDepth 100000 in
set_option maxHeartbeats 16000000 in
theorem dIsLoose {w:World} {L:DgL} {d:Nd.Dia} (h:DgRd w L d.sizes d.order d.ends d.nodes) (hI:DgIn d) :
    Calls Tryz.prog 153 #[dgV L d.sizes.length d.order.length d.ends.length d.nodes.length d.root] w fun e w'=>e = .returned (.bool (looseB d)) ∧ Ext w w':=by
  obtain ⟨zl,el,nl,hf,hkr,hroot⟩:=hI;have H:=Lib.hid h;have l1:=h.s.le;have l2:=h.o.le;have l3:=h.e.le;have l4:=h.n.le;rw [List.length_map] at l3;rw [zip_nodeC_len h.kl] at l4;have HF:=Lib.hid hf;have HKR:=Lib.hid hkr;have HROOT:=Lib.hid hroot;have RK:=Lib.hid (fun W (hE:Ext w W) r hr=>dRank (h.ext hE) r hr);have RF:=Lib.hid (fun W r b hr=>dIsRef (w:=W) L d.sizes.length d.order.length d.ends.length d.nodes.length d.root r b el hr);unfold dgV DgL.cells at RK RF ⊢;clear h hf hkr hroot;generalize h1:d.sizes.length=n1 at *;generalize h2:d.order.length=n2 at *;generalize h3:d.ends.length=n3 at *;generalize h4:d.nodes.length=n4 at *;generalize hr:d.root=rt at *;have H1:=Lib.hid h1;have H3:=Lib.hid h3;have H4:=Lib.hid h4;have HR:=Lib.hid hr;clear h1 h2 h3 h4 hr;generalize hres:looseB d=res;have HRES:=Lib.hid hres;clear hres;go_enter Tryz.func153,Tryz.ntmps153
  go_wp2_with fail
  refine cut_world (F:=fun W=>Hid (Ext w W) ∧ Own5 W w.heap.size (.slice L.ps n1 L.cs) (.slice L.po n2 L.co) (.slice L.pe n3 L.ce) (.slice L.pn n4 L.cn) (.int .i64 rt)) ⟨Lib.hid (exx),by go_simp,by go_simp,by go_simp,by go_simp,by go_simp,fun o=>by go_simp⟩ ?_;intro w0 ⟨E0,O0⟩;generalize w.heap.size=g at O0 ⊢;have H0:=Lib.hid (H.out.ext E0.out)
  go_loopg [3] n3 (fun gg i wr=>∃ j:Nat,j ≤ n3 ∧ n3-j ≤ gg ∧ i = .int .i64 j ∧ Aside (Ext w0 wr) ∧ Aside (∀ m x,m < j → d.ends[m]? = some x → cellOk x=true))
  case atStart=>exact ⟨0,by omega,by omega,rfl,(show Aside _ from Ext.refl _),(show Aside _ from fun m x hm=>absurd hm (Nat.not_lt_zero _))⟩
  case round=>
   obtain ⟨j,hj,hg,rfl,HE,HA⟩:=hrel;obtain ⟨a0,a1,a2,a3,a4,az⟩:=O0.ext HE.out
   by_cases hlt:j < n3
   · obtain ⟨v,hv⟩:=get_list (E:=d.ends) (j:=j) (by rw [H3.out];exact hlt);obtain ⟨b,o,hpe,hb,hc⟩:=(H0.out.ext HE.out).e.end_cells (by rw [H3.out];omega);obtain ⟨g1,g2⟩:=hc j v hv;rw [hpe] at a2;have tk:decide ((j:Int) < (n3:Int))=true:=decide_eq_true (by omega);have IC:=Lib.hid (fun W=>dIsCell (w:=W) v.1 v.2 (HF.out v (List.mem_of_getElem? hv)));have HV:=Lib.hid hv;clear hc hv hpe
     cases hok:cellOk v with
     | true=>
      simp only [hok] at IC;have HOK:=Lib.hid hok;clear hok
      go_wp2_with (go_at_call 134;refine (IC.out _).mono ?_;rintro e w1 ⟨rfl,hb1⟩;obtain ⟨hc1,hf1,hs1⟩:=hb1.cells)
      go_roundg (n3-(j+1))
      case measure=>omega
      case rel=>
       refine ⟨j+1,by omega,by omega,by go_num,(show Aside _ from HE.out.trans hb1),(show Aside _ from fun m x hm hx=>?_)⟩
       by_cases e:m=j
       · subst e;rw [HV.out] at hx
         cases hx
         exact HOK.out
       · exact HA.out m x (by omega) hx
     | false=>
      simp only [hok] at IC;have e:res=false:=by
       rw [← HRES.out];unfold looseB;rw [all_false HV.out hok];rfl
      subst e;clear hok
      go_wp2_with (go_at_call 134;refine (IC.out _).mono ?_;rintro e w1 ⟨rfl,hb1⟩;obtain ⟨hc1,hf1,hs1⟩:=hb1.cells)
      go_returns;exact ⟨rfl,(E0.out.trans HE.out).trans hb1⟩
   · have hjn:j=n3:=by omega
     have tk:decide ((j:Int) < (n3:Int))=false:=decide_eq_false (by omega)
     have EA:=Lib.hid (all_true fun m x hx=>HA.out m x (by
      have:=(List.getElem?_eq_some_iff.1 hx).1;rw [H3.out] at this;omega) hx)
     clear HA hjn
     go_wp2_with fail
     go_loopg [4] n4 (fun gg i wr2=>∃ j:Nat,j ≤ n4 ∧ n4-j ≤ gg ∧ i = .int .i64 j ∧ Aside (Ext w0 wr2) ∧ Aside (∀ m,m < j → branchB d m=true))
     case atStart=>exact ⟨0,by omega,by omega,rfl,(show Aside _ from HE.out),(show Aside _ from fun m hm=>absurd hm (Nat.not_lt_zero _))⟩
     case round=>
      obtain ⟨i,hj,hg,rfl,HE2,HA⟩:=hrel;clear HE;obtain ⟨a0,a1,a2,a3,a4,az⟩:=O0.ext HE2.out
      by_cases hlt:i < n4
      · obtain ⟨q,hq⟩:=get_list (E:=d.nodes) (j:=i) (by rw [H4.out];exact hlt);obtain ⟨⟨kp,kc⟩,hk⟩:=get_list (E:=L.K) (j:=i) (by rw [H.out.kl,H4.out];exact hlt);have HW:=Lib.hid (H0.out.ext HE2.out);obtain ⟨b,o,hpn,hb,hc⟩:=HW.out.node_cells (by rw [H4.out];omega);obtain ⟨g1,g2⟩:=hc i q _ hq hk;simp only at g2;have SK:=Lib.hid (HW.out.ks i q _ hq hk);simp only at SK;have hqa:d.nodeAt i=q:=by unfold Nd.Dia.nodeAt;rw [hq];rfl
        have HQ:=Lib.hid hqa;have HKR1:=Lib.hid (HKR.out q (List.mem_of_getElem? hq));rw [hpn] at a3;have tk:decide ((i:Int) < (n4:Int))=true:=decide_eq_true (by omega);clear hc hq hk hpn hqa;obtain ⟨q1,q2⟩:=q;simp only at g1 g2 SK HKR1;have kl:=SK.out.le;have kcap:=SK.out.cap;have IN:=Lib.hid (fun W=>dIn q1 0 ((n1:Int)-1) W);have sb:IntKind.i64.wrap ((n1:Int)-1)=(n1:Int)-1:=IntWalk.i64_in _ (by omega)
        go_wp2_with fail
        refine cut_world (F:=fun W=>Hid (Ext wr W) ∧ W.cell? ⟨wr.heap.size,0,none⟩=some (.int .i64 q1) ∧ W.cell? ⟨wr.heap.size,1,none⟩=some (.slice kp q2.length kc)) ⟨Lib.hid (exx),by go_simp,by go_simp⟩ ?_;intro w3 ⟨E3,c0,c1⟩;generalize wr.heap.size=gb at c0 c1 ⊢;have O3:=Lib.hid ((O0.ext HE2.out).ext E3.out);have SK3:=Lib.hid (SK.out.ext E3.out);have HW3:=Lib.hid (HW.out.ext E3.out);have EX:=Lib.hid ((E0.out.trans HE2.out).trans E3.out);clear a0 a1 a2 a3 a4 az g1 g2 SK HW;obtain ⟨b0,b1,b2,b3,b4,bz⟩:=id O3.out;have zg:=cell_lt b0;have zb:=cell_lt c0
        cases hw:Hp.within 0 ((n1:Int)-1) q1 with
        | false=>
         have e:res=false:=by
          rw [← HRES.out];refine loose_no_branch (i:=i) (by rw [H4.out];exact hlt) ?_;unfold branchB;rw [HQ.out,H1.out,hw];rfl
         subst e;simp only [hw] at IN;clear hw;have PR25:=Lib.hid (fun (ww:World) (hSw:Ext w3 ww)=>And.intro ((hSw.cell zg 0).trans b0) ((hSw.cell zb 0).trans c0));refine wp_region_seq (S:=fun W=>Ext w3 W) (R:=Ext) (by kernel_rfl) Ext.refl ?_ ?_
         · exact exx
         refine' tkL 0 rfl ?h0_1 ?_
         case h0_1=>(intro w q;obtain ⟨b0',c0'⟩:=PR25.out w q;go_simp;try with_reducible rfl)
         refine layy ?_;refine' tkL 1 rfl ?h1_2 ?_
         case h1_2=>(intro w q;obtain ⟨b0',c0'⟩:=PR25.out w q;go_simp;try with_reducible rfl)
         refine layy ?_;refine' tkL 2 rfl ?h2_3 ?_
         case h2_3=>(intro w q;obtain ⟨b0',c0'⟩:=PR25.out w q;go_simp;try with_reducible rfl)
         refine layy ?_;refine' tkL 3 rfl ?h3_4 ?_
         case h3_4=>(intro w q;obtain ⟨b0',c0'⟩:=PR25.out w q;go_simp;try with_reducible rfl)
         refine layy ?_;refine' tkL 4 rfl ?h4_5 ?_
         case h4_5=>(intro w q;obtain ⟨b0',c0'⟩:=PR25.out w q;go_simp;try with_reducible rfl)
         refine layy ?_;refine' tkL 5 rfl ?h5_6 ?_
         case h5_6=>(intro w q;obtain ⟨b0',c0'⟩:=PR25.out w q;go_simp;try with_reducible rfl)
         refine layy ?_;refine' tkR 6 (v:=.bool false) rfl (Or.inr ⟨by rfl,66,_, ?hx6_7, ?hy6_7⟩) ?rest6_7
         case hx6_7=>(intro w hSw;go_simp;try with_reducible rfl)
         case hy6_7=>exact fun w hE=>(IN.out _).mono (fun _ _ h=>⟨h.1,h.2,Ext.trans hE h.2⟩)
         refine layy ?_;refine' tkL 7 rfl ?h7_8 ?_
         case h7_8=>(intro w q;obtain ⟨b0',c0'⟩:=PR25.out w q;go_simp;try with_reducible rfl)
         refine layy ?_;refine' tkL 8 rfl ?h8_9 ?_
         case h8_9=>(intro w q;obtain ⟨b0',c0'⟩:=PR25.out w q;go_simp;try with_reducible rfl)
         refine layy ?_;refine' tkR 9 (v:=undef) rfl (Or.inl (Or.inr ⟨by rfl,rfl⟩)) ?rest9_10;refine layy ?_;refine' tkR 10 (v:=undef) rfl (Or.inl (Or.inr ⟨by rfl,rfl⟩)) ?rest10_11;refine layy ?_;refine' tkR 11 (v:=undef) rfl (Or.inl (Or.inr ⟨by rfl,rfl⟩)) ?rest11_12;refine layy ?_;refine' tkR 12 (v:=undef) rfl (Or.inl (Or.inr ⟨by rfl,rfl⟩)) ?rest12_13;refine layy ?_;refine' tkR 13 (v:=undef) rfl (Or.inl (Or.inr ⟨by rfl,rfl⟩)) ?rest13_14;refine layy ?_;refine' tkR 14 (v:=undef) rfl (Or.inl (Or.inr ⟨by rfl,rfl⟩)) ?rest14_15;refine layy ?_;refine' tkR 15 (v:=undef) rfl (Or.inl (Or.inr ⟨by rfl,rfl⟩)) ?rest15_16;refine layy ?_;refine' tkR 16 (v:=undef) rfl (Or.inl (Or.inr ⟨by rfl,rfl⟩)) ?rest16_17;refine layy ?_;refine' tkR 17 (v:=undef) rfl (Or.inl (Or.inr ⟨by rfl,rfl⟩)) ?rest17_18;refine layy ?_;refine' tkR 18 (v:=undef) rfl (Or.inl (Or.inr ⟨by rfl,rfl⟩)) ?rest18_19;refine layy ?_;refine' tkL 19 rfl ?h19_20 ?_
         case h19_20=>(intro w q;obtain ⟨b0',c0'⟩:=PR25.out w q;go_simp;try with_reducible rfl)
         refine layy ?_;refine wpAnyR_done (by kernel_rfl) ?_ _;intro x1 _ Ex1
         go_wp2_with fail
         go_returns;exact ⟨rfl,EX.out.trans Ex1⟩
        | true=>
         have hwi:0 ≤ q1 ∧ q1 ≤ (n1:Int)-1:=by simpa [Hp.within] using hw
         have HWI:=Lib.hid hw;simp only [hw] at IN;clear hw;obtain ⟨m,rfl⟩:∃ m:Nat,q1=(m:Int):=⟨q1.toNat,by omega⟩
         obtain ⟨sz,hsz⟩:=rd_get (l:=d.sizes) (j:=m) (by rw [H1.out];omega);obtain ⟨bs,os,hps,hbs,hcs⟩:=HW3.out.s.cells (by rw [H1.out];omega);have gs:=hcs m sz hsz;have hml:m < n1:=by omega
         have hgd:d.sizes.getD m 0=sz:=by rw [List.getD_eq_getElem?_getD,show d.sizes[m]? = some sz from hsz];rfl
         rw [hps] at b0;clear hcs hsz hps hwi;have hbr:branchB d i=(decide ((q2.length:Int)=sz) && q2.all (kidB d i)):=by
          unfold branchB;rw [HQ.out,H1.out,HWI.out];simp only [Bool.true_and,Int.toNat_natCast,hgd]
         have HBR:=Lib.hid hbr;clear hbr hgd
         by_cases hne:(q2.length:Int)=sz
         · have t0:((q2.length:Int) != sz)=false:=by simpa using hne
           have HNE:=Lib.hid hne;clear hne;have PR26:=Lib.hid (fun (ww:World) (hSw:Ext w3 ww)=>And.intro ((hSw.cell zg 0).trans b0) (And.intro ((hSw.cell zb 0).trans c0) (And.intro ((hSw.cell zb 1).trans c1) ((hSw.cell hbs (os+m)).trans gs))));refine wp_region_seq (S:=fun W=>Ext w3 W) (R:=Ext) (by kernel_rfl) Ext.refl ?_ ?_
           · exact exx
           refine' tkL 0 rfl ?h0_21 ?_
           case h0_21=>(intro w q;obtain ⟨b0',c0',c1',gs'⟩:=PR26.out w q;go_simp;try with_reducible rfl)
           refine layy ?_;refine' tkL 1 rfl ?h1_22 ?_
           case h1_22=>(intro w q;obtain ⟨b0',c0',c1',gs'⟩:=PR26.out w q;go_simp;try with_reducible rfl)
           refine layy ?_;refine' tkL 2 rfl ?h2_23 ?_
           case h2_23=>(intro w q;obtain ⟨b0',c0',c1',gs'⟩:=PR26.out w q;go_simp;try with_reducible rfl)
           refine layy ?_;refine' tkL 3 rfl ?h3_24 ?_
           case h3_24=>(intro w q;obtain ⟨b0',c0',c1',gs'⟩:=PR26.out w q;go_simp;try with_reducible rfl)
           refine layy ?_;refine' tkL 4 rfl ?h4_25 ?_
           case h4_25=>(intro w q;obtain ⟨b0',c0',c1',gs'⟩:=PR26.out w q;go_simp;try with_reducible rfl)
           refine layy ?_;refine' tkL 5 rfl ?h5_26 ?_
           case h5_26=>(intro w q;obtain ⟨b0',c0',c1',gs'⟩:=PR26.out w q;go_simp;try with_reducible rfl)
           refine layy ?_;refine' tkR 6 (v:=.bool true) rfl (Or.inr ⟨by rfl,66,_, ?hx6_27, ?hy6_27⟩) ?rest6_27
           case hx6_27=>(intro w hSw;go_simp;try with_reducible rfl)
           case hy6_27=>exact fun w hE=>(IN.out _).mono (fun _ _ h=>⟨h.1,h.2,Ext.trans hE h.2⟩)
           refine layy ?_;refine' tkL 7 rfl ?h7_28 ?_
           case h7_28=>(intro w q;obtain ⟨b0',c0',c1',gs'⟩:=PR26.out w q;go_simp;try with_reducible rfl)
           refine layy ?_;refine' tkL 8 rfl ?h8_29 ?_
           case h8_29=>(intro w q;obtain ⟨b0',c0',c1',gs'⟩:=PR26.out w q;go_simp;try with_reducible rfl)
           refine layy ?_;refine' tkL 9 rfl ?h9_30 ?_
           case h9_30=>(intro w q;obtain ⟨b0',c0',c1',gs'⟩:=PR26.out w q;go_simp;try with_reducible rfl)
           refine layy ?_;refine' tkL 10 rfl ?h10_31 ?_
           case h10_31=>(intro w q;obtain ⟨b0',c0',c1',gs'⟩:=PR26.out w q;go_simp;try with_reducible rfl)
           refine layy ?_;refine' tkL 11 rfl ?h11_32 ?_
           case h11_32=>(intro w q;obtain ⟨b0',c0',c1',gs'⟩:=PR26.out w q;go_simp;try with_reducible rfl)
           refine layy ?_;refine' tkL 12 rfl ?h12_33 ?_
           case h12_33=>(intro w q;obtain ⟨b0',c0',c1',gs'⟩:=PR26.out w q;go_simp;try with_reducible rfl)
           refine layy ?_;refine' tkL 13 rfl ?h13_34 ?_
           case h13_34=>(intro w q;obtain ⟨b0',c0',c1',gs'⟩:=PR26.out w q;go_simp;try with_reducible rfl)
           refine layy ?_;refine' tkL 14 rfl ?h14_35 ?_
           case h14_35=>(intro w q;obtain ⟨b0',c0',c1',gs'⟩:=PR26.out w q;go_simp;try with_reducible rfl)
           refine layy ?_;refine' tkL 15 rfl ?h15_36 ?_
           case h15_36=>(intro w q;obtain ⟨b0',c0',c1',gs'⟩:=PR26.out w q;go_simp;try with_reducible rfl)
           refine layy ?_;refine' tkL 16 rfl ?h16_37 ?_
           case h16_37=>(intro w q;obtain ⟨b0',c0',c1',gs'⟩:=PR26.out w q;go_simp;try with_reducible rfl)
           refine layy ?_;refine' tkL 17 rfl ?h17_38 ?_
           case h17_38=>(intro w q;obtain ⟨b0',c0',c1',gs'⟩:=PR26.out w q;go_simp;try with_reducible rfl)
           refine layy ?_;refine' tkL 18 rfl ?h18_39 ?_
           case h18_39=>(intro w q;obtain ⟨b0',c0',c1',gs'⟩:=PR26.out w q;go_simp;try with_reducible rfl)
           refine layy ?_;refine' tkL 19 rfl ?h19_40 ?_
           case h19_40=>(intro w q;obtain ⟨b0',c0',c1',gs'⟩:=PR26.out w q;go_simp;try with_reducible rfl)
           refine layy ?_;refine wpAnyR_done (by kernel_rfl) ?_ _;intro x1 _ Ex1;clear b0 gs t0;have c1x:=(Ex1.cell zb 1).trans c1;have zbx:=Nat.lt_of_lt_of_le zb Ex1.le
           go_wp2_with fail
           go_loopg [6] q2.length (fun gg i' wr4=>∃ k:Nat,k ≤ q2.length ∧ q2.length-k ≤ gg ∧ i' = .int .i64 k ∧ Aside (Ext w3 wr4) ∧ Aside (∀ m x,m < k → q2[m]? = some x → kidB d i x=true))
           case atStart=>exact ⟨0,by omega,by omega,rfl,(show Aside _ from Ex1),(show Aside _ from fun m x hm=>absurd hm (Nat.not_lt_zero _))⟩
           case round=>
            obtain ⟨k,hkj,hg3,rfl,HE4,HA4⟩:=hrel;have c1w:=(HE4.out.cell zb 1).trans c1;have zbw:=Nat.lt_of_lt_of_le zb HE4.out.le
            by_cases hlt4:k < q2.length
            · obtain ⟨x,hx⟩:=rd_get (l:=q2) (j:=k) hlt4;obtain ⟨bk,ok,rfl,hbk,hck⟩:=(SK3.out.ext HE4.out).cells (by omega);have gk:=hck k x hx;have HX:=Lib.hid hx;have hxr:=HKR1.out x (List.mem_of_getElem? hx);obtain ⟨d0,d1,d2,d3,d4,dz⟩:=id (O3.out.ext HE4.out);have zgw:=cell_lt d0;have RF1:=Lib.hid (fun W=>RF.out W x i hxr);have tk4:decide ((k:Int) < (q2.length:Int))=true:=decide_eq_true (by omega);have EX4:=Lib.hid (EX.out.trans HE4.out);clear hck hx hxr;have FACTS:True:=trivial
              cases hrf:refB x i n3 with
              | false=>
               have e:res=false:=by
                rw [← HRES.out];refine loose_no_branch (i:=i) (by rw [H4.out];exact hlt) ?_;rw [HBR.out,all_false HX.out (by unfold kidB;rw [H3.out,hrf];rfl)];simp
               subst e;simp only [hrf] at RF1;clear hrf
               go_wp2_with fail
               have PR27:=Lib.hid (fun (ww:World) (hSw:Ext wr ww)=>And.intro ((hSw.cell zgw 0).trans d0) (And.intro ((hSw.cell zgw 1).trans d1) (And.intro ((hSw.cell zgw 2).trans d2) (And.intro ((hSw.cell zgw 3).trans d3) (And.intro ((hSw.cell zgw 4).trans d4) (And.intro ((hSw.cell zbw 1).trans c1w) ((hSw.cell hbk (ok+k)).trans gk)))))));refine wp_region_seq (S:=fun W=>Ext wr W) (R:=Ext) (by kernel_rfl) Ext.refl ?_ ?_
               · exact exx
               refine' tkL 0 rfl ?h0_41 ?_
               case h0_41=>(intro w q;obtain ⟨d0',d1',d2',d3',d4',c1',gk'⟩:=PR27.out w q;go_simp;try with_reducible rfl)
               refine layy ?_;refine' tkL 1 rfl ?h1_42 ?_
               case h1_42=>(intro w q;obtain ⟨d0',d1',d2',d3',d4',c1',gk'⟩:=PR27.out w q;go_simp;try with_reducible rfl)
               refine layy ?_;refine' tkL 2 rfl ?h2_43 ?_
               case h2_43=>(intro w q;obtain ⟨d0',d1',d2',d3',d4',c1',gk'⟩:=PR27.out w q;go_simp;try with_reducible rfl)
               refine layy ?_;refine' tkL 3 rfl ?h3_44 ?_
               case h3_44=>(intro w q;obtain ⟨d0',d1',d2',d3',d4',c1',gk'⟩:=PR27.out w q;go_simp;try with_reducible rfl)
               refine layy ?_;refine' tkL 4 rfl ?h4_45 ?_
               case h4_45=>(intro w q;obtain ⟨d0',d1',d2',d3',d4',c1',gk'⟩:=PR27.out w q;go_simp;try with_reducible rfl)
               refine layy ?_;refine' tkL 5 rfl ?h5_46 ?_
               case h5_46=>(intro w q;obtain ⟨d0',d1',d2',d3',d4',c1',gk'⟩:=PR27.out w q;go_simp;try with_reducible rfl)
               refine layy ?_;refine' tkL 6 rfl ?h6_47 ?_
               case h6_47=>(intro w q;obtain ⟨d0',d1',d2',d3',d4',c1',gk'⟩:=PR27.out w q;go_simp;try with_reducible rfl)
               refine layy ?_;refine' tkR 7 (v:=.bool false) rfl (Or.inr ⟨by rfl,176,_, ?hx7_48, ?hy7_48⟩) ?rest7_48
               case hx7_48=>(intro w hSw;go_simp;try with_reducible rfl)
               case hy7_48=>exact fun w hE=>(RF1.out _).mono (fun _ _ h=>⟨h.1,h.2,Ext.trans hE h.2⟩)
               refine layy ?_;refine' tkL 8 rfl ?h8_49 ?_
               case h8_49=>(intro w q;obtain ⟨d0',d1',d2',d3',d4',c1',gk'⟩:=PR27.out w q;go_simp;try with_reducible rfl)
               refine layy ?_;refine' tkL 9 rfl ?h9_50 ?_
               case h9_50=>(intro w q;obtain ⟨d0',d1',d2',d3',d4',c1',gk'⟩:=PR27.out w q;go_simp;try with_reducible rfl)
               refine layy ?_;refine' tkR 10 (v:=undef) rfl (Or.inl (Or.inr ⟨by rfl,rfl⟩)) ?rest10_51;refine layy ?_;refine' tkR 11 (v:=undef) rfl (Or.inl (Or.inr ⟨by rfl,rfl⟩)) ?rest11_52;refine layy ?_;refine' tkR 12 (v:=undef) rfl (Or.inl (Or.inr ⟨by rfl,rfl⟩)) ?rest12_53;refine layy ?_;refine' tkR 13 (v:=undef) rfl (Or.inl (Or.inr ⟨by rfl,rfl⟩)) ?rest13_54;refine layy ?_;refine' tkR 14 (v:=undef) rfl (Or.inl (Or.inr ⟨by rfl,rfl⟩)) ?rest14_55;refine layy ?_;refine' tkR 15 (v:=undef) rfl (Or.inl (Or.inr ⟨by rfl,rfl⟩)) ?rest15_56;refine layy ?_;refine' tkR 16 (v:=undef) rfl (Or.inl (Or.inr ⟨by rfl,rfl⟩)) ?rest16_57;refine layy ?_;refine' tkR 17 (v:=undef) rfl (Or.inl (Or.inr ⟨by rfl,rfl⟩)) ?rest17_58;refine layy ?_;refine' tkR 18 (v:=undef) rfl (Or.inl (Or.inr ⟨by rfl,rfl⟩)) ?rest18_59;refine layy ?_;refine' tkR 19 (v:=undef) rfl (Or.inl (Or.inr ⟨by rfl,rfl⟩)) ?rest19_60;refine layy ?_;refine' tkR 20 (v:=undef) rfl (Or.inl (Or.inr ⟨by rfl,rfl⟩)) ?rest20_61;refine layy ?_;refine' tkL 21 rfl ?h21_62 ?_
               case h21_62=>(intro w q;obtain ⟨d0',d1',d2',d3',d4',c1',gk'⟩:=PR27.out w q;go_simp;try with_reducible rfl)
               refine layy ?_;refine wpAnyR_done (by kernel_rfl) ?_ _;intro x2 _ Ex2
               go_wp2_with fail
               go_returns;exact ⟨rfl,EX4.out.trans Ex2⟩
              | true=>
               have hxn:x < (n4:Int):=by
                unfold refB at hrf
                split at hrf
                · have:=of_decide_eq_true hrf;omega
                · omega
               have RK1:=Lib.hid (fun W (hE:Ext wr W)=>RK.out W (((EX4.out)).trans hE) x hxn);have RK2:=Lib.hid (fun W (hE:Ext wr W)=>RK.out W (((EX4.out)).trans hE) (i:Int) (by omega));have HRF:=Lib.hid hrf;simp only [hrf] at RF1;clear hrf hxn
               by_cases hle:rankO d x ≤ rankO d (i:Int)
               · have e:res=false:=by
                   rw [← HRES.out];refine loose_no_branch (i:=i) (by rw [H4.out];exact hlt) ?_;rw [HBR.out,all_false HX.out (by unfold kidB;rw [decide_eq_false (fun h=>h hle)];simp)];simp
                 subst e;have tl:decide (rankO d x ≤ rankO d (i:Int))=true:=decide_eq_true hle;clear hle
                 go_wp2_with fail
                 have PR28:=Lib.hid (fun (ww:World) (hSw:Ext wr ww)=>And.intro ((hSw.cell zgw 0).trans d0) (And.intro ((hSw.cell zgw 1).trans d1) (And.intro ((hSw.cell zgw 2).trans d2) (And.intro ((hSw.cell zgw 3).trans d3) (And.intro ((hSw.cell zgw 4).trans d4) (And.intro ((hSw.cell zbw 1).trans c1w) ((hSw.cell hbk (ok+k)).trans gk)))))));refine wp_region_seq (S:=fun W=>Ext wr W) (R:=Ext) (by kernel_rfl) Ext.refl ?_ ?_
                 · exact exx
                 refine' tkL 0 rfl ?h0_63 ?_
                 case h0_63=>(intro w q;obtain ⟨d0',d1',d2',d3',d4',c1',gk'⟩:=PR28.out w q;go_simp;try with_reducible rfl)
                 refine layy ?_;refine' tkL 1 rfl ?h1_64 ?_
                 case h1_64=>(intro w q;obtain ⟨d0',d1',d2',d3',d4',c1',gk'⟩:=PR28.out w q;go_simp;try with_reducible rfl)
                 refine layy ?_;refine' tkL 2 rfl ?h2_65 ?_
                 case h2_65=>(intro w q;obtain ⟨d0',d1',d2',d3',d4',c1',gk'⟩:=PR28.out w q;go_simp;try with_reducible rfl)
                 refine layy ?_;refine' tkL 3 rfl ?h3_66 ?_
                 case h3_66=>(intro w q;obtain ⟨d0',d1',d2',d3',d4',c1',gk'⟩:=PR28.out w q;go_simp;try with_reducible rfl)
                 refine layy ?_;refine' tkL 4 rfl ?h4_67 ?_
                 case h4_67=>(intro w q;obtain ⟨d0',d1',d2',d3',d4',c1',gk'⟩:=PR28.out w q;go_simp;try with_reducible rfl)
                 refine layy ?_;refine' tkL 5 rfl ?h5_68 ?_
                 case h5_68=>(intro w q;obtain ⟨d0',d1',d2',d3',d4',c1',gk'⟩:=PR28.out w q;go_simp;try with_reducible rfl)
                 refine layy ?_;refine' tkL 6 rfl ?h6_69 ?_
                 case h6_69=>(intro w q;obtain ⟨d0',d1',d2',d3',d4',c1',gk'⟩:=PR28.out w q;go_simp;try with_reducible rfl)
                 refine layy ?_;refine' tkR 7 (v:=.bool true) rfl (Or.inr ⟨by rfl,176,_, ?hx7_70, ?hy7_70⟩) ?rest7_70
                 case hx7_70=>(intro w hSw;go_simp;try with_reducible rfl)
                 case hy7_70=>exact fun w hE=>(RF1.out _).mono (fun _ _ h=>⟨h.1,h.2,Ext.trans hE h.2⟩)
                 refine layy ?_;refine' tkL 8 rfl ?h8_71 ?_
                 case h8_71=>(intro w q;obtain ⟨d0',d1',d2',d3',d4',c1',gk'⟩:=PR28.out w q;go_simp;try with_reducible rfl)
                 refine layy ?_;refine' tkL 9 rfl ?h9_72 ?_
                 case h9_72=>(intro w q;obtain ⟨d0',d1',d2',d3',d4',c1',gk'⟩:=PR28.out w q;go_simp;try with_reducible rfl)
                 refine layy ?_;refine' tkL 10 rfl ?h10_73 ?_
                 case h10_73=>(intro w q;obtain ⟨d0',d1',d2',d3',d4',c1',gk'⟩:=PR28.out w q;go_simp;try with_reducible rfl)
                 refine layy ?_;refine' tkL 11 rfl ?h11_74 ?_
                 case h11_74=>(intro w q;obtain ⟨d0',d1',d2',d3',d4',c1',gk'⟩:=PR28.out w q;go_simp;try with_reducible rfl)
                 refine layy ?_;refine' tkL 12 rfl ?h12_75 ?_
                 case h12_75=>(intro w q;obtain ⟨d0',d1',d2',d3',d4',c1',gk'⟩:=PR28.out w q;go_simp;try with_reducible rfl)
                 refine layy ?_;refine' tkL 13 rfl ?h13_76 ?_
                 case h13_76=>(intro w q;obtain ⟨d0',d1',d2',d3',d4',c1',gk'⟩:=PR28.out w q;go_simp;try with_reducible rfl)
                 refine layy ?_;refine' tkL 14 rfl ?h14_77 ?_
                 case h14_77=>(intro w q;obtain ⟨d0',d1',d2',d3',d4',c1',gk'⟩:=PR28.out w q;go_simp;try with_reducible rfl)
                 refine layy ?_;refine' tkL 15 rfl ?h15_78 ?_
                 case h15_78=>(intro w q;obtain ⟨d0',d1',d2',d3',d4',c1',gk'⟩:=PR28.out w q;go_simp;try with_reducible rfl)
                 refine layy ?_;refine' tkR 16 (v:=.int .i64 (rankO d x)) rfl (Or.inr ⟨by rfl,177,_, ?hx16_79, ?hy16_79⟩) ?rest16_79
                 case hx16_79=>(intro w hSw;go_simp;try with_reducible rfl)
                 case hy16_79=>exact fun w hE=>(RK1.out _ hE).mono (fun _ _ h=>⟨h.1,h.2,Ext.trans hE h.2⟩)
                 refine layy ?_;refine' tkL 17 rfl ?h17_80 ?_
                 case h17_80=>(intro w q;obtain ⟨d0',d1',d2',d3',d4',c1',gk'⟩:=PR28.out w q;go_simp;try with_reducible rfl)
                 refine layy ?_;refine' tkL 18 rfl ?h18_81 ?_
                 case h18_81=>(intro w q;obtain ⟨d0',d1',d2',d3',d4',c1',gk'⟩:=PR28.out w q;go_simp;try with_reducible rfl)
                 refine layy ?_;refine' tkR 19 (v:=.int .i64 (rankO d (i:Int))) rfl (Or.inr ⟨by rfl,177,_, ?hx19_82, ?hy19_82⟩) ?rest19_82
                 case hx19_82=>(intro w hSw;go_simp;try with_reducible rfl)
                 case hy19_82=>exact fun w hE=>(RK2.out _ hE).mono (fun _ _ h=>⟨h.1,h.2,Ext.trans hE h.2⟩)
                 refine layy ?_;refine' tkL 20 rfl ?h20_83 ?_
                 case h20_83=>(intro w q;obtain ⟨d0',d1',d2',d3',d4',c1',gk'⟩:=PR28.out w q;go_simp;try with_reducible rfl)
                 refine layy ?_;refine' tkL 21 rfl ?h21_84 ?_
                 case h21_84=>(intro w q;obtain ⟨d0',d1',d2',d3',d4',c1',gk'⟩:=PR28.out w q;go_simp;try with_reducible rfl)
                 refine layy ?_;refine wpAnyR_done (by kernel_rfl) ?_ _;intro x2 _ Ex2
                 go_wp2_with fail
                 go_returns;exact ⟨rfl,EX4.out.trans Ex2⟩
               · have tl:decide (rankO d x ≤ rankO d (i:Int))=false:=decide_eq_false hle;have HLE:=Lib.hid hle;clear hle
                 go_wp2_with fail
                 have PR29:=Lib.hid (fun (ww:World) (hSw:Ext wr ww)=>And.intro ((hSw.cell zgw 0).trans d0) (And.intro ((hSw.cell zgw 1).trans d1) (And.intro ((hSw.cell zgw 2).trans d2) (And.intro ((hSw.cell zgw 3).trans d3) (And.intro ((hSw.cell zgw 4).trans d4) (And.intro ((hSw.cell zbw 1).trans c1w) ((hSw.cell hbk (ok+k)).trans gk)))))));refine wp_region_seq (S:=fun W=>Ext wr W) (R:=Ext) (by kernel_rfl) Ext.refl ?_ ?_
                 · exact exx
                 refine' tkL 0 rfl ?h0_85 ?_
                 case h0_85=>(intro w q;obtain ⟨d0',d1',d2',d3',d4',c1',gk'⟩:=PR29.out w q;go_simp;try with_reducible rfl)
                 refine layy ?_;refine' tkL 1 rfl ?h1_86 ?_
                 case h1_86=>(intro w q;obtain ⟨d0',d1',d2',d3',d4',c1',gk'⟩:=PR29.out w q;go_simp;try with_reducible rfl)
                 refine layy ?_;refine' tkL 2 rfl ?h2_87 ?_
                 case h2_87=>(intro w q;obtain ⟨d0',d1',d2',d3',d4',c1',gk'⟩:=PR29.out w q;go_simp;try with_reducible rfl)
                 refine layy ?_;refine' tkL 3 rfl ?h3_88 ?_
                 case h3_88=>(intro w q;obtain ⟨d0',d1',d2',d3',d4',c1',gk'⟩:=PR29.out w q;go_simp;try with_reducible rfl)
                 refine layy ?_;refine' tkL 4 rfl ?h4_89 ?_
                 case h4_89=>(intro w q;obtain ⟨d0',d1',d2',d3',d4',c1',gk'⟩:=PR29.out w q;go_simp;try with_reducible rfl)
                 refine layy ?_;refine' tkL 5 rfl ?h5_90 ?_
                 case h5_90=>(intro w q;obtain ⟨d0',d1',d2',d3',d4',c1',gk'⟩:=PR29.out w q;go_simp;try with_reducible rfl)
                 refine layy ?_;refine' tkL 6 rfl ?h6_91 ?_
                 case h6_91=>(intro w q;obtain ⟨d0',d1',d2',d3',d4',c1',gk'⟩:=PR29.out w q;go_simp;try with_reducible rfl)
                 refine layy ?_;refine' tkR 7 (v:=.bool true) rfl (Or.inr ⟨by rfl,176,_, ?hx7_92, ?hy7_92⟩) ?rest7_92
                 case hx7_92=>(intro w hSw;go_simp;try with_reducible rfl)
                 case hy7_92=>exact fun w hE=>(RF1.out _).mono (fun _ _ h=>⟨h.1,h.2,Ext.trans hE h.2⟩)
                 refine layy ?_;refine' tkL 8 rfl ?h8_93 ?_
                 case h8_93=>(intro w q;obtain ⟨d0',d1',d2',d3',d4',c1',gk'⟩:=PR29.out w q;go_simp;try with_reducible rfl)
                 refine layy ?_;refine' tkL 9 rfl ?h9_94 ?_
                 case h9_94=>(intro w q;obtain ⟨d0',d1',d2',d3',d4',c1',gk'⟩:=PR29.out w q;go_simp;try with_reducible rfl)
                 refine layy ?_;refine' tkL 10 rfl ?h10_95 ?_
                 case h10_95=>(intro w q;obtain ⟨d0',d1',d2',d3',d4',c1',gk'⟩:=PR29.out w q;go_simp;try with_reducible rfl)
                 refine layy ?_;refine' tkL 11 rfl ?h11_96 ?_
                 case h11_96=>(intro w q;obtain ⟨d0',d1',d2',d3',d4',c1',gk'⟩:=PR29.out w q;go_simp;try with_reducible rfl)
                 refine layy ?_;refine' tkL 12 rfl ?h12_97 ?_
                 case h12_97=>(intro w q;obtain ⟨d0',d1',d2',d3',d4',c1',gk'⟩:=PR29.out w q;go_simp;try with_reducible rfl)
                 refine layy ?_;refine' tkL 13 rfl ?h13_98 ?_
                 case h13_98=>(intro w q;obtain ⟨d0',d1',d2',d3',d4',c1',gk'⟩:=PR29.out w q;go_simp;try with_reducible rfl)
                 refine layy ?_;refine' tkL 14 rfl ?h14_99 ?_
                 case h14_99=>(intro w q;obtain ⟨d0',d1',d2',d3',d4',c1',gk'⟩:=PR29.out w q;go_simp;try with_reducible rfl)
                 refine layy ?_;refine' tkL 15 rfl ?h15_100 ?_
                 case h15_100=>(intro w q;obtain ⟨d0',d1',d2',d3',d4',c1',gk'⟩:=PR29.out w q;go_simp;try with_reducible rfl)
                 refine layy ?_;refine' tkR 16 (v:=.int .i64 (rankO d x)) rfl (Or.inr ⟨by rfl,177,_, ?hx16_101, ?hy16_101⟩) ?rest16_101
                 case hx16_101=>(intro w hSw;go_simp;try with_reducible rfl)
                 case hy16_101=>exact fun w hE=>(RK1.out _ hE).mono (fun _ _ h=>⟨h.1,h.2,Ext.trans hE h.2⟩)
                 refine layy ?_;refine' tkL 17 rfl ?h17_102 ?_
                 case h17_102=>(intro w q;obtain ⟨d0',d1',d2',d3',d4',c1',gk'⟩:=PR29.out w q;go_simp;try with_reducible rfl)
                 refine layy ?_;refine' tkL 18 rfl ?h18_103 ?_
                 case h18_103=>(intro w q;obtain ⟨d0',d1',d2',d3',d4',c1',gk'⟩:=PR29.out w q;go_simp;try with_reducible rfl)
                 refine layy ?_;refine' tkR 19 (v:=.int .i64 (rankO d (i:Int))) rfl (Or.inr ⟨by rfl,177,_, ?hx19_104, ?hy19_104⟩) ?rest19_104
                 case hx19_104=>(intro w hSw;go_simp;try with_reducible rfl)
                 case hy19_104=>exact fun w hE=>(RK2.out _ hE).mono (fun _ _ h=>⟨h.1,h.2,Ext.trans hE h.2⟩)
                 refine layy ?_;refine' tkL 20 rfl ?h20_105 ?_
                 case h20_105=>(intro w q;obtain ⟨d0',d1',d2',d3',d4',c1',gk'⟩:=PR29.out w q;go_simp;try with_reducible rfl)
                 refine layy ?_;refine' tkL 21 rfl ?h21_106 ?_
                 case h21_106=>(intro w q;obtain ⟨d0',d1',d2',d3',d4',c1',gk'⟩:=PR29.out w q;go_simp;try with_reducible rfl)
                 refine layy ?_;refine wpAnyR_done (by kernel_rfl) ?_ _;intro x2 _ Ex2
                 go_wp2_with fail
                 go_roundg (q2.length-(k+1))
                 case measure=>omega
                 case rel=>
                  refine ⟨k+1,by omega,by omega,by go_num,(show Aside _ from HE4.out.trans Ex2),(show Aside _ from fun m y hm hy=>?_)⟩
                  by_cases e:m=k
                  · subst e;rw [show q2[m]? = some x from HX.out] at hy
                    cases hy
                    unfold kidB;rw [H3.out,HRF.out,Bool.true_and];exact decide_eq_true (by have:=HLE.out;omega)
                  · exact HA4.out m y (by omega) hy
            · have hkn:k=q2.length:=by omega
              have tk4:decide ((k:Int) < (q2.length:Int))=false:=decide_eq_false (by omega)
              have HBT:Hid (branchB d i=true):=Lib.hid (by
               rw [HBR.out,decide_eq_true HNE.out,all_true fun m y hy=>HA4.out m y (by
                have:=(List.getElem?_eq_some_iff.1 hy).1;omega) hy]
               rfl)
              clear HA4 hkn
              go_wp2_with fail
              go_roundg (n4-(i+1))
              case measure=>omega
              case rel=>
               refine ⟨i+1,by omega,by omega,by go_num,(show Aside _ from (HE2.out.trans E3.out).trans HE4.out),(show Aside _ from fun m hm=>?_)⟩
               by_cases e:m=i
               · subst e;exact HBT.out
               · exact HA.out m (by omega)
         · have t0:((q2.length:Int) != sz)=true:=by simpa using hne
           have e:res=false:=by
            rw [← HRES.out];refine loose_no_branch (i:=i) (by rw [H4.out];exact hlt) ?_;rw [HBR.out,decide_eq_false hne];rfl
           subst e;clear hne;have PR30:=Lib.hid (fun (ww:World) (hSw:Ext w3 ww)=>And.intro ((hSw.cell zg 0).trans b0) (And.intro ((hSw.cell zb 0).trans c0) (And.intro ((hSw.cell zb 1).trans c1) ((hSw.cell hbs (os+m)).trans gs))));refine wp_region_seq (S:=fun W=>Ext w3 W) (R:=Ext) (by kernel_rfl) Ext.refl ?_ ?_
           · exact exx
           refine' tkL 0 rfl ?h0_107 ?_
           case h0_107=>(intro w q;obtain ⟨b0',c0',c1',gs'⟩:=PR30.out w q;go_simp;try with_reducible rfl)
           refine layy ?_;refine' tkL 1 rfl ?h1_108 ?_
           case h1_108=>(intro w q;obtain ⟨b0',c0',c1',gs'⟩:=PR30.out w q;go_simp;try with_reducible rfl)
           refine layy ?_;refine' tkL 2 rfl ?h2_109 ?_
           case h2_109=>(intro w q;obtain ⟨b0',c0',c1',gs'⟩:=PR30.out w q;go_simp;try with_reducible rfl)
           refine layy ?_;refine' tkL 3 rfl ?h3_110 ?_
           case h3_110=>(intro w q;obtain ⟨b0',c0',c1',gs'⟩:=PR30.out w q;go_simp;try with_reducible rfl)
           refine layy ?_;refine' tkL 4 rfl ?h4_111 ?_
           case h4_111=>(intro w q;obtain ⟨b0',c0',c1',gs'⟩:=PR30.out w q;go_simp;try with_reducible rfl)
           refine layy ?_;refine' tkL 5 rfl ?h5_112 ?_
           case h5_112=>(intro w q;obtain ⟨b0',c0',c1',gs'⟩:=PR30.out w q;go_simp;try with_reducible rfl)
           refine layy ?_;refine' tkR 6 (v:=.bool true) rfl (Or.inr ⟨by rfl,66,_, ?hx6_113, ?hy6_113⟩) ?rest6_113
           case hx6_113=>(intro w hSw;go_simp;try with_reducible rfl)
           case hy6_113=>exact fun w hE=>(IN.out _).mono (fun _ _ h=>⟨h.1,h.2,Ext.trans hE h.2⟩)
           refine layy ?_;refine' tkL 7 rfl ?h7_114 ?_
           case h7_114=>(intro w q;obtain ⟨b0',c0',c1',gs'⟩:=PR30.out w q;go_simp;try with_reducible rfl)
           refine layy ?_;refine' tkL 8 rfl ?h8_115 ?_
           case h8_115=>(intro w q;obtain ⟨b0',c0',c1',gs'⟩:=PR30.out w q;go_simp;try with_reducible rfl)
           refine layy ?_;refine' tkL 9 rfl ?h9_116 ?_
           case h9_116=>(intro w q;obtain ⟨b0',c0',c1',gs'⟩:=PR30.out w q;go_simp;try with_reducible rfl)
           refine layy ?_;refine' tkL 10 rfl ?h10_117 ?_
           case h10_117=>(intro w q;obtain ⟨b0',c0',c1',gs'⟩:=PR30.out w q;go_simp;try with_reducible rfl)
           refine layy ?_;refine' tkL 11 rfl ?h11_118 ?_
           case h11_118=>(intro w q;obtain ⟨b0',c0',c1',gs'⟩:=PR30.out w q;go_simp;try with_reducible rfl)
           refine layy ?_;refine' tkL 12 rfl ?h12_119 ?_
           case h12_119=>(intro w q;obtain ⟨b0',c0',c1',gs'⟩:=PR30.out w q;go_simp;try with_reducible rfl)
           refine layy ?_;refine' tkL 13 rfl ?h13_120 ?_
           case h13_120=>(intro w q;obtain ⟨b0',c0',c1',gs'⟩:=PR30.out w q;go_simp;try with_reducible rfl)
           refine layy ?_;refine' tkL 14 rfl ?h14_121 ?_
           case h14_121=>(intro w q;obtain ⟨b0',c0',c1',gs'⟩:=PR30.out w q;go_simp;try with_reducible rfl)
           refine layy ?_;refine' tkL 15 rfl ?h15_122 ?_
           case h15_122=>(intro w q;obtain ⟨b0',c0',c1',gs'⟩:=PR30.out w q;go_simp;try with_reducible rfl)
           refine layy ?_;refine' tkL 16 rfl ?h16_123 ?_
           case h16_123=>(intro w q;obtain ⟨b0',c0',c1',gs'⟩:=PR30.out w q;go_simp;try with_reducible rfl)
           refine layy ?_;refine' tkL 17 rfl ?h17_124 ?_
           case h17_124=>(intro w q;obtain ⟨b0',c0',c1',gs'⟩:=PR30.out w q;go_simp;try with_reducible rfl)
           refine layy ?_;refine' tkL 18 rfl ?h18_125 ?_
           case h18_125=>(intro w q;obtain ⟨b0',c0',c1',gs'⟩:=PR30.out w q;go_simp;try with_reducible rfl)
           refine layy ?_;refine' tkL 19 rfl ?h19_126 ?_
           case h19_126=>(intro w q;obtain ⟨b0',c0',c1',gs'⟩:=PR30.out w q;go_simp;try with_reducible rfl)
           refine layy ?_;refine wpAnyR_done (by kernel_rfl) ?_ _;intro x1 _ Ex1
           go_wp2_with fail
           go_returns;exact ⟨rfl,EX.out.trans Ex1⟩
      · have tk:decide ((i:Int) < (n4:Int))=false:=decide_eq_false (by omega);have hin:i=n4:=by omega
        have e:res=refB rt n4 n3:=by
         rw [← HRES.out];unfold looseB;rw [EA.out,H3.out,H4.out,HR.out,all_true (l:=List.range n4) (p:=branchB d) fun m y hy=>by
          obtain ⟨hm,e⟩:=List.getElem?_eq_some_iff.1 hy;rw [List.length_range] at hm;rw [List.getElem_range] at e;rw [← e];exact HA.out m (by omega)]
         rfl
        subst e;clear hin HA;have RF2:=Lib.hid (fun W=>RF.out W rt n4 HROOT.out)
        go_wp2_with (go_at_call 176;refine (RF2.out _).mono ?_;rintro e w2 ⟨rfl,hb2⟩;obtain ⟨hc2,hf2,hs2⟩:=hb2.cells)
        go_returns;exact ⟨rfl,(E0.out.trans HE2.out).trans hb2⟩
theorem app_row {w:World} {ops:Array Oper} {rest:List Oper} {o:Oper} {a:Act} {Q:Exit → Act → World → Prop} (hgd:o.guard=none) (s x:Operand)
    (ho:o.op = .call { callee:=.builtin .append,args:=#[s,x],argTypes:=#[22,22] }) {c b:Nat} {p:Option Addr} {l:List Int} {y:Int} (hs:a.eval s = .slice p l.length c) (hx:a.eval x = .slice (some ⟨b,0,none⟩) 1 1)
    (hrow:Row w 0 p c l) (hy:w.cell? ⟨b,0,none⟩=some (.int .i64 y)) (hy1 : -9223372036854775808 ≤ y) (hy2:y ≤ 9223372036854775807) (hlen:l.length < 10000000)
    (h:∀ g cap w' row,Row w' 0 (some ⟨g,0,none⟩) cap (l ++ [y]) → w.grownBy w' row → (∀ r,row=some r → p=some ⟨r,0,none⟩) → (p=some ⟨g,0,none⟩ ∨ g=w.heap.size) → wpList Tryz.prog ops Q rest (a.put o.dst (.slice (some ⟨g,0,none⟩) (l.length+1) cap)) w'):wpList Tryz.prog ops Q (o :: rest) a w:=by
  obtain ⟨i0,hi,hz0,hz1,hz2⟩:=info_parts (show (Tryz.prog.info? 3).map (fun i=>(i.zero,i.size,i.bytes))=some (some (.int .i64 0),1,8) from by kernel_rfl);refine wpList_append_lies w hgd s x 22 ho 0 3 i0 (.int .i64 0) 1 8 Tryz.underlying22 hi hz0 hz1 hz2 rfl (by decide) _ _ _ hs hrow.1 ⟨b,0,none⟩ 1 1 [.int .i64 y] hx (by simp) (fun j u hj=>?_) (by simp [Value.oneCell']) (by omega) (by unfold maxLen;omega) (by omega) (Nat.zero_le _) _ rfl ?_
  · cases j with
    | zero=>
     simp at hj;subst hj;rw [Addr.add_lit];exact hy
    | succ j=>simp at hj
  · intro g cap w' hown hgrow hor _;have own:=row_own hrow;refine h g cap w' _ ⟨by simpa [ints] using hown,fun z hz=>?_⟩ hgrow own (hor.imp (own g) id)
    rcases List.mem_append.1 hz with hz | hz
    · exact hrow.2 z hz
    · have:z=y:=by simpa using hz
      subst this;exact ⟨hy1,hy2⟩
theorem app_rowN {w:World} {ops:Array Oper} {rest:List Oper} {o:Oper} {a:Act} {Q:Exit → Act → World → Prop} (hgd:o.guard=none) (s x:Operand)
    (ho:o.op = .call { callee:=.builtin .append,args:=#[s,x],argTypes:=#[22,22] }) {c b n:Nat} {p:Option Addr} {l:List Int} {y:Int} (hn:l.length=n) (hs:a.eval s = .slice p n c) (hx:a.eval x = .slice (some ⟨b,0,none⟩) 1 1)
    (hrow:Row w 0 p c l) (hy:w.cell? ⟨b,0,none⟩=some (.int .i64 y)) (hy1 : -9223372036854775808 ≤ y) (hy2:y ≤ 9223372036854775807) (hlen:n < 10000000)
    (h:∀ g cap w' row,Row w' 0 (some ⟨g,0,none⟩) cap (l ++ [y]) → w.grownBy w' row → (∀ r,row=some r → p=some ⟨r,0,none⟩) → (p=some ⟨g,0,none⟩ ∨ g=w.heap.size) → wpList Tryz.prog ops Q rest (a.put o.dst (.slice (some ⟨g,0,none⟩) (n+1) cap)) w'):wpList Tryz.prog ops Q (o :: rest) a w:=by
  subst hn;exact app_row hgd s x ho hs hx hrow hy hy1 hy2 hlen h
structure SrAt (wb w:World) (p1:Option Addr) (k1:Nat) (p2:Option Addr) (k2:Nat) (t:List Int × List Int):Prop where
 ext0:Ext wb w
 r1:Row w 0 p1 k1 t.1
 r2:Row w 0 p2 k2 t.2
 l1:∀ b o,p1=some ⟨b,o,none⟩ → wb.heap.size ≤ b
 l2:∀ b o,p2=some ⟨b,o,none⟩ → wb.heap.size ≤ b
 n12:∀ b o b' o',p1=some ⟨b,o,none⟩ → p2=some ⟨b',o',none⟩ → b ≠ b'
structure SrTo (wb w:World) (p1 p2:Option Addr) (w':World) (q1:Option Addr) (k1:Nat) (q2:Option Addr) (k2:Nat) (t:List Int × List Int):Prop extends SrAt wb w' q1 k1 q2 k2 t where
 but:But (blk p1 ++ blk p2) w w'
 o1:∀ b o,q1=some ⟨b,o,none⟩ → b ∈ blk p1 ∨ w.heap.size ≤ b
 o2:∀ b o,q2=some ⟨b,o,none⟩ → b ∈ blk p2 ∨ w.heap.size ≤ b
namespace SrAt
variable {wb w w':World} {p1 p2:Option Addr} {k1 k2:Nat} {t:List Int × List Int}
theorem ext (h:SrAt wb w p1 k1 p2 k2 t) (k:Ext w w'):SrAt wb w' p1 k1 p2 k2 t:=
 { h with ext0:=h.ext0.trans k,r1:=h.r1.ext k,r2:=h.r2.ext k }
theorem same (h:SrAt wb w p1 k1 p2 k2 t) (k:Ext w w'):SrTo wb w p1 p2 w' p1 k1 p2 k2 t:=
 { h.ext k with but:=But.ofExt k,o1:=fun b o e=>.inl (mem_blk e),o2:=fun b o e=>.inl (mem_blk e) }
theorem to_but {row:Option Nat} (hG:w.grownBy w' row):But row.toList w w':=⟨hG.os,hG.tape,hG.output,hG.size,fun i hi hn=>hG.block i hi (fun e=>hn (by rw [← e];simp))⟩
theorem grow1 (h:SrAt wb w p1 k1 p2 k2 t) {g cap:Nat} {row:Option Nat} {l:List Int} (hR:Row w' 0 (some ⟨g,0,none⟩) cap l) (hG:w.grownBy w' row) (hrow:∀ r,row=some r → p1=some ⟨r,0,none⟩) (hg:p1=some ⟨g,0,none⟩ ∨ g=w.heap.size) :
    SrTo wb w p1 p2 w' (some ⟨g,0,none⟩) cap p2 k2 (l,t.2):=by
  have kb:=to_but hG;have hin:∀ x ∈ row.toList,x ∈ blk p1:=fun x hx=>by
   cases row with
   | none=>cases hx
   | some r=>
    simp only [Option.toList_some,List.mem_singleton] at hx;subst hx;exact mem_blk (hrow _ rfl)
  have hlo:∀ x ∈ row.toList,wb.heap.size ≤ x:=fun x hx=>by
   cases row with
   | none=>cases hx
   | some r=>
    simp only [Option.toList_some,List.mem_singleton] at hx;subst hx;exact h.l1 _ 0 (hrow _ rfl)
  refine ⟨⟨But.toExt h.ext0 kb hlo,hR,h.r2.but_ kb (fun b o e hx=>?_),fun b o e=>?_,h.l2,fun b o b' o' e e'=>?_⟩, ?_,fun b o e=>?_,fun b o e=>.inl (mem_blk e)⟩
  · cases row with
    | none=>cases hx
    | some r=>
     simp only [Option.toList_some,List.mem_singleton] at hx;subst hx;exact h.n12 _ 0 _ o (hrow _ rfl) e rfl
  · cases e
    rcases hg with hg | hg
    · exact h.l1 _ _ hg
    · have:=h.ext0.le;omega
  · cases e
    rcases hg with hg | hg
    · exact h.n12 _ _ _ _ hg e'
    · have:=h.r2.lt e';omega
  · exact But.over (But.refl _ _) kb fun x hx=>.inl (by simp [hin x hx])
  · cases e
    rcases hg with hg | hg
    · exact .inl (mem_blk hg)
    · exact .inr (by omega)
theorem grow2 (h:SrAt wb w p1 k1 p2 k2 t) {g cap:Nat} {row:Option Nat} {l:List Int} (hR:Row w' 0 (some ⟨g,0,none⟩) cap l) (hG:w.grownBy w' row) (hrow:∀ r,row=some r → p2=some ⟨r,0,none⟩) (hg:p2=some ⟨g,0,none⟩ ∨ g=w.heap.size) :
    SrTo wb w p1 p2 w' p1 k1 (some ⟨g,0,none⟩) cap (t.1,l):=by
  have kb:=to_but hG;have hin:∀ x ∈ row.toList,x ∈ blk p2:=fun x hx=>by
   cases row with
   | none=>cases hx
   | some r=>
    simp only [Option.toList_some,List.mem_singleton] at hx;subst hx;exact mem_blk (hrow _ rfl)
  have hlo:∀ x ∈ row.toList,wb.heap.size ≤ x:=fun x hx=>by
   cases row with
   | none=>cases hx
   | some r=>
    simp only [Option.toList_some,List.mem_singleton] at hx;subst hx;exact h.l2 _ 0 (hrow _ rfl)
  refine ⟨⟨But.toExt h.ext0 kb hlo,h.r1.but_ kb (fun b o e hx=>?_),hR,h.l1,fun b o e=>?_,fun b o b' o' e e'=>?_⟩, ?_,fun b o e=>.inl (mem_blk e),fun b o e=>?_⟩
  · cases row with
    | none=>cases hx
    | some r=>
     simp only [Option.toList_some,List.mem_singleton] at hx;subst hx;exact h.n12 _ o _ 0 e (hrow _ rfl) rfl
  · cases e
    rcases hg with hg | hg
    · exact h.l2 _ _ hg
    · have:=h.ext0.le;omega
  · cases e'
    rcases hg with hg | hg
    · exact h.n12 _ _ _ _ e hg
    · have:=h.r1.lt e;omega
  · exact But.over (But.refl _ _) kb fun x hx=>.inl (by simp [hin x hx])
  · cases e
    rcases hg with hg | hg
    · exact .inl (mem_blk hg)
    · exact .inr (by omega)
end SrAt
theorem row_blk {w:World} {base c x:Nat} {p:Option Addr} {l:List Int} (h:Row w base p c l) (hx:x ∈ blk p):p=some ⟨x,0,none⟩:=by
 rcases h.1.2 with ⟨e,_⟩ | ⟨g,cap,cur,e,_⟩
 · injection e with e1
   subst e1
   cases hx
 · injection e with e1
   subst e1;simp only [blk,List.mem_singleton] at hx;rw [hx]
namespace SrTo
variable {wb w w1 w2:World} {p1 p2 q1 q2 r1 r2:Option Addr} {k1 k2 j1 j2:Nat} {t u:List Int × List Int}
theorem from_ (h:SrTo wb w1 p1 p2 w2 q1 k1 q2 k2 t) (k:Ext w w1):SrTo wb w p1 p2 w2 q1 k1 q2 k2 t:=
 { h with
   but:=But.over (But.ofExt k) h.but (fun x hx=>.inl hx)
   o1:=fun b o e=>(h.o1 b o e).imp id fun e=>Nat.le_trans k.le e
   o2:=fun b o e=>(h.o2 b o e).imp id fun e=>Nat.le_trans k.le e }
theorem trans (h:SrTo wb w p1 p2 w1 q1 k1 q2 k2 t) (k:SrTo wb w1 q1 q2 w2 r1 j1 r2 j2 u):SrTo wb w p1 p2 w2 r1 j1 r2 j2 u:=by
 have key1:∀ x,x ∈ blk q1 → x ∈ blk p1 ∨ w.heap.size ≤ x:=fun x hx=>h.o1 _ _ (row_blk h.r1 hx)
 have key2:∀ x,x ∈ blk q2 → x ∈ blk p2 ∨ w.heap.size ≤ x:=fun x hx=>h.o2 _ _ (row_blk h.r2 hx)
 refine { k with but:=But.over h.but k.but fun x hx=>?_,o1:=fun b o e=>?_,o2:=fun b o e=>?_ }
 · simp only [List.mem_append] at hx ⊢
   rcases hx with hx | hx
   · exact (key1 x hx).imp .inl id
   · exact (key2 x hx).imp .inr id
 · rcases k.o1 b o e with h1 | h1
   · exact key1 b h1
   · have:=h.but.size;exact .inr (by omega)
 · rcases k.o2 b o e with h1 | h1
   · exact key2 b h1
   · have:=h.but.size;exact .inr (by omega)
end SrTo
def SrPost (wb w:World) (p1 p2:Option Addr) (t:List Int × List Int) (e:Ending) (w':World):Prop:=∃ q1 k1 q2 k2,e = .returned (.tuple #[.slice q1 t.1.length k1,.slice q2 t.2.length k2]) ∧ SrTo wb w p1 p2 w' q1 k1 q2 k2 t
set_option maxRecDepth 100000 in
set_option maxHeartbeats 8000000 in
theorem search_end {wb w:World} {L:DgL} {d:Nd.Dia} (n:Nat) (z1 z2 z3 z4:Nat) (x r:Int) {p1 p2:Option Addr} {k1 k2:Nat} {t:List Int × List Int} (hr:r < 0) (hr2 : -1-r < 1000000) (S:SrAt wb w p1 k1 p2 k2 t) (b2:t.2.length ≤ 1000000) :
    Calls Tryz.prog 154 #[dgV L z1 z2 z3 z4 x,.int .i64 r,.slice p1 t.1.length k1,.slice p2 t.2.length k2] w (SrPost wb w p1 p2 (d.srch (n+1) r t)):=by
  have HS:=Lib.hid S;unfold dgV DgL.cells;rw [Nd.Dia.srch,if_pos hr];have tk:decide (r < 0)=true:=decide_eq_true hr;have s1:IntKind.i64.wrap (-1-r) = -1-r:=IntWalk.i64_in _ (by omega);have y1:(-9223372036854775808:Int) ≤ -1-r:=by omega
  have y2 : -1-r ≤ (9223372036854775807:Int):=by omega
  clear hr;clear S
  by_cases hm : -1-r ∈ t.2
  · rw [if_pos hm];have HA:=Lib.hid (fun W (hE:Ext w W)=>(by have:=dHas ((HS.out.ext hE).r2.at_) (-1-r);rw [decide_eq_true hm] at this;exact this:Calls Tryz.prog 178 #[.slice p2 t.2.length k2,.int .i64 (-1-r)] W fun e w'=>e = .returned (.bool true) ∧ Ext W w'));clear hm;generalize ha1:t.1.length=a1 at *;generalize ha2:t.2.length=a2 at *;have HA1:=Lib.hid ha1;have HA2:=Lib.hid ha2;clear ha1 ha2;go_enter Tryz.func154,Tryz.ntmps154
    go_wp2_with (go_at_call 178;refine (HA.out _ (exx)).mono ?_;rintro e w1 ⟨rfl,hb1⟩;obtain ⟨hc1,hf1,hs1⟩:=hb1.cells)
    go_returns;refine ⟨p1,k1,p2,k2, ?_,HS.out.same ((Ext.alloc (Ext.refl _) _).trans hb1)⟩;rw [HA1.out,HA2.out];rfl
  · rw [if_neg hm];have HA:=Lib.hid (fun W (hE:Ext w W)=>(by have:=dHas ((HS.out.ext hE).r2.at_) (-1-r);rw [decide_eq_false hm] at this;exact this:Calls Tryz.prog 178 #[.slice p2 t.2.length k2,.int .i64 (-1-r)] W fun e w'=>e = .returned (.bool false) ∧ Ext W w'));clear hm;generalize ha1:t.1.length=a1 at *;generalize ha2:t.2.length=a2 at *;have HA1:=Lib.hid ha1;have HA2:=Lib.hid ha2;clear ha1 ha2;go_enter Tryz.func154,Tryz.ntmps154
    go_wp2_with (first
     | (go_at_call 178;refine (HA.out _ (exx)).mono ?_;rintro e w1 ⟨rfl,hb1⟩;obtain ⟨hc1,hf1,hs1⟩:=hb1.cells)
     | (at_builtin;refine app_rowN rfl _ _ rfl (n:=a2) HA2.out rfl rfl (HS.out.ext (show Ext w _ from exx)).r2 (by go_simp) y1 y2 (by omega) ?_;intro g2 c2 w2 row2 hR2 hG2 hr2 hg2;have N2:=Lib.hid (((HS.out.ext (show Ext w _ from exx)).grow2 hR2 hG2 hr2 hg2).from_ (show Ext w _ from exx));clear hR2 hG2 hr2 hg2))
    go_returns;refine ⟨p1,k1,_,_, ?_,N2.out⟩;simp only [List.length_append,List.length_cons,List.length_nil];rw [HA1.out,HA2.out];rfl
theorem search_known {wb w:World} {L:DgL} {d:Nd.Dia} (n:Nat) (z1 z2 z3 z4:Nat) (x r:Int) {p1 p2:Option Addr} {k1 k2:Nat} {t:List Int × List Int} (hr:¬ r < 0) (hm:r ∈ t.1) (S:SrAt wb w p1 k1 p2 k2 t) :
    Calls Tryz.prog 154 #[dgV L z1 z2 z3 z4 x,.int .i64 r,.slice p1 t.1.length k1,.slice p2 t.2.length k2] w (SrPost wb w p1 p2 (d.srch (n+1) r t)):=by
  have HS:=Lib.hid S;unfold dgV DgL.cells;rw [Nd.Dia.srch,if_neg hr,if_pos hm];have tk:decide (r < 0)=false:=decide_eq_false hr;clear hr;clear S;have HA:=Lib.hid (fun W (hE:Ext w W)=>(by have:=dHas ((HS.out.ext hE).r1.at_) r;rw [decide_eq_true hm] at this;exact this:Calls Tryz.prog 178 #[.slice p1 t.1.length k1,.int .i64 r] W fun e w'=>e = .returned (.bool true) ∧ Ext W w'));clear hm;generalize ha1:t.1.length=a1 at *;generalize ha2:t.2.length=a2 at *;have HA1:=Lib.hid ha1;have HA2:=Lib.hid ha2;clear ha1 ha2;go_enter Tryz.func154,Tryz.ntmps154
  go_wp2_with (go_at_call 178;refine (HA.out _ (exx)).mono ?_;rintro e w1 ⟨rfl,hb1⟩;obtain ⟨hc1,hf1,hs1⟩:=hb1.cells)
  go_returns;refine ⟨p1,k1,p2,k2, ?_,HS.out.same ((Ext.alloc (Ext.refl _) _).trans hb1)⟩;rw [HA1.out,HA2.out];rfl
end Go.Proofs.YtdokmmhjmclmnaaGreat
