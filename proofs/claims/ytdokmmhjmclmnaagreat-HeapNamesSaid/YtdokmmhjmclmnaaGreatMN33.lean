/-
  Part 33 of a proof: ND4 ND5 ND6 ND7 ND8 NX1 NX2.
-/
import Derived.Maps.OwnSet
import Derived.Test.YtdokmmhjmclmnaaGreatMN19
import Derived.Test.YtdokmmhjmclmnaaGreatMN23
import Derived.Test.YtdokmmhjmclmnaaGreatMN32
set_option linter.unusedSimpArgs false
set_option linter.unusedVariables false
set_option linter.unusedSectionVars false
set_option linter.unnecessarySimpa false
namespace Go.Proofs.YtdokmmhjmclmnaaGreat
open Go.RowKit Go.Maps
def branchN (d:Nd.Dia) (i:Nat):Bool:=Hp.within 0 ((d.sizes.length:Int)-1) (d.nodeAt i).1 && decide (((d.nodeAt i).2.length:Int)=d.sizes.getD (d.nodeAt i).1.toNat 0) && (d.nodeAt i).2.all (fun k=>kidN d k i (Hp.index d.order (d.nodeAt i).1))
set_option maxRecDepth 100000 in
set_option maxHeartbeats 16000000 in
theorem nIsBranch {w:World} {L:DgL} {d:Nd.Dia} (h:DgRd w L d.sizes d.order d.ends d.nodes) {i:Nat} (hi:i < d.nodes.length) (hel:d.ends.length ≤ 1000000) (hzl:d.sizes.length ≤ 6)
    (hk:∀ q ∈ d.nodes,∀ k ∈ q.2,-9223372036854775808 ≤ k ∧ k ≤ 9223372036854775807) (hv:∀ q ∈ d.nodes,-9223372036854775808 ≤ q.1 ∧ q.1 ≤ 9223372036854775807) :
    Calls Tryz.prog 190 #[lsV L d.sizes.length d.order.length d.ends.length d.nodes.length d.root,.int .i64 (i:Int)] w fun e w'=>e = .returned (.bool (branchN d i)) ∧ Ext w w':=by
  obtain ⟨q,hq⟩:=get_list (E:=d.nodes) (j:=i) hi;obtain ⟨⟨kp,kc⟩,hkk⟩:=get_list (E:=L.K) (j:=i) (by rw [h.kl];exact hi);obtain ⟨b,o,hpn,hnb,hc⟩:=h.node_cells (by omega);obtain ⟨g1,g2⟩:=hc i q _ hq hkk;simp only at g2;have hqa:d.nodeAt i=q:=by unfold Nd.Dia.nodeAt;rw [hq];rfl
  have SK:=Lib.hid (h.ks i q _ hq hkk);simp only at SK;have HKR:=Lib.hid (hk q (List.mem_of_getElem? hq));have HVR:=hv q (List.mem_of_getElem? hq);have B1:=Lib.hid (fun W (hE:Ext w W) gd gn gb k hd hn hb hk=>nIsBranch1 (h.ext hE) (gd:=gd) (gn:=gn) (gb:=gb) k i q.1 hd hn hb hk (Nat.le_of_lt hi) hel);have H:=Lib.hid h;have hbr:branchN d i=(Hp.within 0 ((d.sizes.length:Int)-1) q.1 && decide ((q.2.length:Int)=d.sizes.getD q.1.toNat 0) && q.2.all (fun k=>kidN d k i (Hp.index d.order q.1))):=by
   unfold branchN;rw [hqa]
  have HBR:=Lib.hid hbr;have kl:=SK.out.le;have kcap:=SK.out.cap;have l4:=h.n.le;have c4:=h.n.cap;rw [zip_nodeC_len h.kl] at l4;have mixed:Tryz.prog.follows .mixedOrders=true:=by kernel_rfl
  unfold lsV;have tlt:i < d.nodes.length:=hi;have HPN:=Lib.hid hpn;rw [hpn];clear h hq hkk hc hqa hk hv hi hbr hpn;generalize branchN d i=res at *;obtain ⟨v,ks⟩:=q;simp only at g1 g2 SK HKR HVR B1 HBR kl kcap;generalize h1:d.sizes.length=n1 at *;generalize h2:d.order.length=n2 at *;generalize h3:d.ends.length=n3 at *;generalize h4:d.nodes.length=n4 at *;generalize hrt:d.root=rt at *;have H1:=Lib.hid h1;clear h1 h2 h3 h4 hrt;have sb:IntKind.i64.wrap ((n1:Int)-1)=(n1:Int)-1:=IntWalk.i64_in _ (by omega);go_enter Tryz.func190,Tryz.ntmps190
  go_wp2_with fail
  refine cut_world (F:=fun W=>Hid (Ext w W) ∧ LsAt W w.heap.size L n1 n2 n3 n4 rt ∧ W.cell? ⟨w.heap.size+1,0,none⟩=some (.int .i64 (i:Int)) ∧ W.cell? ⟨w.heap.size+1+1,0,none⟩=some (.int .i64 v) ∧ W.cell? ⟨w.heap.size+1+1,1,none⟩=some (.slice kp ks.length kc)) ⟨Lib.hid (exx),⟨by go_simp,by go_simp,by go_simp,by go_simp,by go_simp,by rw [HPN.out];go_simp,by go_simp⟩,by go_simp,by go_simp,by go_simp⟩ ?_;intro w0 ⟨E0,D0',m0,b0,b1⟩;have D0:=Lib.hid D0';generalize w.heap.size+1+1=gb at b0 b1 ⊢;generalize w.heap.size+1=gn at m0 ⊢;generalize w.heap.size=gd at D0' D0 ⊢;have zd:=cell_lt D0'.c0;have zn:=cell_lt m0;have zb:=cell_lt b0;have d0:=D0'.c0;clear D0' g1 g2
  cases hw:Hp.within 0 ((n1:Int)-1) v with
  | false=>
   have e:res=false:=by rw [HBR.out,hw];rfl
   subst e;have e2 : [v].all (fun m=>decide (0 ≤ m) && decide (m ≤ (n1:Int)-1))=false:=by
    simp only [List.all_cons,List.all_nil,Bool.and_true];exact hw
   clear hw HBR;have PR22:=Lib.hid (fun (ww:World) (hSw:Ext w0 ww)=>And.intro ((hSw.cell zd 0).trans d0) ((hSw.cell zb 0).trans b0));refine wp_region_seq (S:=fun W=>Ext w0 W) (R:=Ext) (by kernel_rfl) Ext.refl ?_ ?_
   · exact exx
   refine' tkL 0 rfl ?h0_1381 ?_
   case h0_1381=>(intro w q;obtain ⟨d0',b0'⟩:=PR22.out w q;go_simp;try with_reducible rfl)
   refine layy ?_;refine' tkL 1 rfl ?h1_1382 ?_
   case h1_1382=>(intro w q;obtain ⟨d0',b0'⟩:=PR22.out w q;go_simp;try with_reducible rfl)
   refine layy ?_;refine' tkL 2 rfl ?h2_1383 ?_
   case h2_1383=>(intro w q;obtain ⟨d0',b0'⟩:=PR22.out w q;go_simp;try with_reducible rfl)
   refine layy ?_;refine' tkL 3 rfl ?h3_1384 ?_
   case h3_1384=>(intro w q;obtain ⟨d0',b0'⟩:=PR22.out w q;go_simp;try with_reducible rfl)
   refine layy ?_;refine' tkL 4 rfl ?h4_1385 ?_
   case h4_1385=>(intro w q;obtain ⟨d0',b0'⟩:=PR22.out w q;go_simp;try with_reducible rfl)
   refine layy ?_;refine' tkL 5 rfl ?h5_1386 ?_
   case h5_1386=>(intro w q;obtain ⟨d0',b0'⟩:=PR22.out w q;go_simp;try with_reducible rfl)
   refine layy ?_;refine' tkL 6 rfl ?h6_1387 ?_
   case h6_1387=>(intro w q;obtain ⟨d0',b0'⟩:=PR22.out w q;go_simp;try with_reducible rfl)
   refine layy ?_;refine wpAnyR_do1 7 (fun u w''=>∃ g,u = .slice (some ⟨g,0,none⟩) 1 1 ∧ Ext w0 w'' ∧ SliceAt w'' (some ⟨g,0,none⟩) 1 [v]) rfl (by kernel_rfl) (by rfl) ?run7 ?vs7 ?next7
   case run7=>
    intro w' hE hS;refine .inr ⟨.slice (some ⟨w'.heap.size,0,none⟩) 1 1,w'.alloc (.cells #[.int .i64 v] 3), ?_,⟨_,rfl,((Ext.drew (Ext.refl w0)).trans hE).trans (Ext.alloc (Ext.refl _) _),SliceAt.one w' v HVR.1 HVR.2 _⟩⟩;go_simp
   case vs7=>
    rintro u w'' ⟨g,_,hE,_⟩ W hW;exact hE.trans hW
   case next7=>
    rintro u w1 ⟨g,rfl,hE1,hS1⟩;have WI:=Lib.hid (fun W (hE:Ext w1 W)=>nWithin_any (least:=0) (most:=(n1:Int)-1) (hS1.ext hE) e2);have d1:=(hE1.cell zd 0).trans d0;have f1:=(hE1.cell zb 0).trans b0;have zd1:=cell_lt d1;have zb1:=cell_lt f1;refine layy ?_;refine' tkR 8 (v:=.bool false) rfl (Or.inr ⟨by rfl,165,_, ?hx8_1388, ?hy8_1388⟩) ?rest8_1388
    case hx8_1388=>(intro w hSw;go_simp;try with_reducible rfl)
    case hy8_1388=>exact fun w hE=>(WI.out _ hE).mono (fun _ _ h=>⟨h.1,h.2,Ext.trans hE h.2⟩)
    refine layy ?_;refine' tkL 9 rfl ?h9_1389 ?_
    case h9_1389=>(intro w hSw;(have d1':=(hSw.cell zd1 0).trans d1;have b1':=(hSw.cell zb1 0).trans f1);go_simp;try with_reducible rfl)
    refine layy ?_;refine' tkL 10 rfl ?h10_1390 ?_
    case h10_1390=>(intro w hSw;(have d1':=(hSw.cell zd1 0).trans d1;have b1':=(hSw.cell zb1 0).trans f1);go_simp;try with_reducible rfl)
    refine layy ?_;refine' tkR 11 (v:=undef) rfl (Or.inl (Or.inr ⟨by rfl,rfl⟩)) ?rest11_1391;refine layy ?_;refine' tkR 12 (v:=undef) rfl (Or.inl (Or.inr ⟨by rfl,rfl⟩)) ?rest12_1392;refine layy ?_;refine' tkR 13 (v:=undef) rfl (Or.inl (Or.inr ⟨by rfl,rfl⟩)) ?rest13_1393;refine layy ?_;refine' tkR 14 (v:=undef) rfl (Or.inl (Or.inr ⟨by rfl,rfl⟩)) ?rest14_1394;refine layy ?_;refine' tkR 15 (v:=undef) rfl (Or.inl (Or.inr ⟨by rfl,rfl⟩)) ?rest15_1395;refine layy ?_;refine' tkR 16 (v:=undef) rfl (Or.inl (Or.inr ⟨by rfl,rfl⟩)) ?rest16_1396;refine layy ?_;refine' tkR 17 (v:=undef) rfl (Or.inl (Or.inr ⟨by rfl,rfl⟩)) ?rest17_1397;refine layy ?_;refine' tkR 18 (v:=undef) rfl (Or.inl (Or.inr ⟨by rfl,rfl⟩)) ?rest18_1398;refine layy ?_;refine' tkR 19 (v:=undef) rfl (Or.inl (Or.inr ⟨by rfl,rfl⟩)) ?rest19_1399;refine layy ?_;refine' tkR 20 (v:=undef) rfl (Or.inl (Or.inr ⟨by rfl,rfl⟩)) ?rest20_1400;refine layy ?_;refine' tkR 21 (v:=undef) rfl (Or.inl (Or.inr ⟨by rfl,rfl⟩)) ?rest21_1401;refine layy ?_;refine' tkL 22 rfl ?h22_1402 ?_
    case h22_1402=>(intro w hSw;(have d1':=(hSw.cell zd1 0).trans d1;have b1':=(hSw.cell zb1 0).trans f1);go_simp;try with_reducible rfl)
    refine layy ?_;refine wpAnyR_done (by kernel_rfl) ?_ _;intro x1 _ Ex1
    go_wp2_with fail
    go_returns;exact ⟨rfl,(E0.out.trans hE1).trans Ex1⟩
  | true=>
   have hwi:0 ≤ v ∧ v ≤ (n1:Int)-1:=by simpa [Hp.within] using hw
   have e2 : [v].all (fun m=>decide (0 ≤ m) && decide (m ≤ (n1:Int)-1))=true:=by
    simp only [List.all_cons,List.all_nil,Bool.and_true];exact hw
   have e3:=HBR.out;rw [hw] at e3;clear hw HBR;obtain ⟨m,rfl⟩:∃ m:Nat,v=(m:Int):=⟨v.toNat,by omega⟩
   obtain ⟨sz,hsz⟩:=rd_get (l:=d.sizes) (j:=m) (by rw [H1.out];omega);obtain ⟨bs,os,hps,hbs,hcs⟩:=(H.out.s.ext E0.out).cells (by rw [H1.out];omega);have gs:=hcs m sz hsz;have hml:m < n1:=by omega
   have hgd:d.sizes.getD m 0=sz:=by rw [List.getD_eq_getElem?_getD,show d.sizes[m]? = some sz from hsz];rfl
   rw [Int.toNat_natCast,hgd,Bool.true_and] at e3;have HE3:=Lib.hid e3;rw [hps] at d0;clear hcs hsz hps hwi hgd e3;have ZZ:True:=trivial
   by_cases hne:(ks.length:Int)=sz
   · have t0:((ks.length:Int) != sz)=false:=by simpa using hne
     have e4:res=ks.all (fun k=>kidN d k i (Hp.index d.order (m:Int))):=by rw [HE3.out,decide_eq_true hne,Bool.true_and]
     have HE4:=Lib.hid e4;clear e4 hne HE3;have PR23:=Lib.hid (fun (ww:World) (hSw:Ext w0 ww)=>And.intro ((hSw.cell zd 0).trans d0) ((hSw.cell zb 0).trans b0));refine wp_region_seq (S:=fun W=>Ext w0 W) (R:=Ext) (by kernel_rfl) Ext.refl ?_ ?_
     · exact exx
     refine' tkL 0 rfl ?h0_1403 ?_
     case h0_1403=>(intro w q;obtain ⟨d0',b0'⟩:=PR23.out w q;go_simp;try with_reducible rfl)
     refine layy ?_;refine' tkL 1 rfl ?h1_1404 ?_
     case h1_1404=>(intro w q;obtain ⟨d0',b0'⟩:=PR23.out w q;go_simp;try with_reducible rfl)
     refine layy ?_;refine' tkL 2 rfl ?h2_1405 ?_
     case h2_1405=>(intro w q;obtain ⟨d0',b0'⟩:=PR23.out w q;go_simp;try with_reducible rfl)
     refine layy ?_;refine' tkL 3 rfl ?h3_1406 ?_
     case h3_1406=>(intro w q;obtain ⟨d0',b0'⟩:=PR23.out w q;go_simp;try with_reducible rfl)
     refine layy ?_;refine' tkL 4 rfl ?h4_1407 ?_
     case h4_1407=>(intro w q;obtain ⟨d0',b0'⟩:=PR23.out w q;go_simp;try with_reducible rfl)
     refine layy ?_;refine' tkL 5 rfl ?h5_1408 ?_
     case h5_1408=>(intro w q;obtain ⟨d0',b0'⟩:=PR23.out w q;go_simp;try with_reducible rfl)
     refine layy ?_;refine' tkL 6 rfl ?h6_1409 ?_
     case h6_1409=>(intro w q;obtain ⟨d0',b0'⟩:=PR23.out w q;go_simp;try with_reducible rfl)
     refine layy ?_;refine wpAnyR_do1 7 (fun u w''=>∃ g,u = .slice (some ⟨g,0,none⟩) 1 1 ∧ Ext w0 w'' ∧ SliceAt w'' (some ⟨g,0,none⟩) 1 [(m:Int)]) rfl (by kernel_rfl) (by rfl) ?run7 ?vs7 ?next7
     case run7=>
      intro w' hE hS;refine .inr ⟨.slice (some ⟨w'.heap.size,0,none⟩) 1 1,w'.alloc (.cells #[.int .i64 (m:Int)] 3), ?_,⟨_,rfl,((Ext.drew (Ext.refl w0)).trans hE).trans (Ext.alloc (Ext.refl _) _),SliceAt.one w' m HVR.1 HVR.2 _⟩⟩;go_simp
     case vs7=>
      rintro u w'' ⟨g,_,hE,_⟩ W hW;exact hE.trans hW
     case next7=>
      rintro u w1 ⟨g,rfl,hE1,hS1⟩;have WI:=Lib.hid (fun W (hE:Ext w1 W)=>nWithin_any (least:=0) (most:=(n1:Int)-1) (hS1.ext hE) e2);have d1:=(hE1.cell zd 0).trans d0;have f1:=(hE1.cell zb 0).trans b0;have f2:=(hE1.cell zb 1).trans b1;have gs1:=(hE1.cell hbs (os+m)).trans gs;have zd1:=cell_lt d1;have zb1:=cell_lt f1;have zs1:=cell_lt gs1;refine layy ?_;refine' tkR 8 (v:=.bool true) rfl (Or.inr ⟨by rfl,165,_, ?hx8_1410, ?hy8_1410⟩) ?rest8_1410
      case hx8_1410=>(intro w hSw;go_simp;try with_reducible rfl)
      case hy8_1410=>exact fun w hE=>(WI.out _ hE).mono (fun _ _ h=>⟨h.1,h.2,Ext.trans hE h.2⟩)
      refine layy ?_;refine' tkL 9 rfl ?h9_1411 ?_
      case h9_1411=>(intro w hSw;(have d1':=(hSw.cell zd1 0).trans d1;have b1':=(hSw.cell zb1 0).trans f1;have b2':=(hSw.cell zb1 1).trans f2;have gs':=(hSw.cell zs1 (os+m)).trans gs1);go_simp;try with_reducible rfl)
      refine layy ?_;refine' tkL 10 rfl ?h10_1412 ?_
      case h10_1412=>(intro w hSw;(have d1':=(hSw.cell zd1 0).trans d1;have b1':=(hSw.cell zb1 0).trans f1;have b2':=(hSw.cell zb1 1).trans f2;have gs':=(hSw.cell zs1 (os+m)).trans gs1);go_simp;try with_reducible rfl)
      refine layy ?_;refine' tkL 11 rfl ?h11_1413 ?_
      case h11_1413=>(intro w hSw;(have d1':=(hSw.cell zd1 0).trans d1;have b1':=(hSw.cell zb1 0).trans f1;have b2':=(hSw.cell zb1 1).trans f2;have gs':=(hSw.cell zs1 (os+m)).trans gs1);go_simp;try with_reducible rfl)
      refine layy ?_;refine' tkL 12 rfl ?h12_1414 ?_
      case h12_1414=>(intro w hSw;(have d1':=(hSw.cell zd1 0).trans d1;have b1':=(hSw.cell zb1 0).trans f1;have b2':=(hSw.cell zb1 1).trans f2;have gs':=(hSw.cell zs1 (os+m)).trans gs1);go_simp;try with_reducible rfl)
      refine layy ?_;refine' tkL 13 rfl ?h13_1415 ?_
      case h13_1415=>(intro w hSw;(have d1':=(hSw.cell zd1 0).trans d1;have b1':=(hSw.cell zb1 0).trans f1;have b2':=(hSw.cell zb1 1).trans f2;have gs':=(hSw.cell zs1 (os+m)).trans gs1);go_simp;try with_reducible rfl)
      refine layy ?_;refine' tkL 14 rfl ?h14_1416 ?_
      case h14_1416=>(intro w hSw;(have d1':=(hSw.cell zd1 0).trans d1;have b1':=(hSw.cell zb1 0).trans f1;have b2':=(hSw.cell zb1 1).trans f2;have gs':=(hSw.cell zs1 (os+m)).trans gs1);go_simp;try with_reducible rfl)
      refine layy ?_;refine' tkL 15 rfl ?h15_1417 ?_
      case h15_1417=>(intro w hSw;(have d1':=(hSw.cell zd1 0).trans d1;have b1':=(hSw.cell zb1 0).trans f1;have b2':=(hSw.cell zb1 1).trans f2;have gs':=(hSw.cell zs1 (os+m)).trans gs1);go_simp;try with_reducible rfl)
      refine layy ?_;refine' tkL 16 rfl ?h16_1418 ?_
      case h16_1418=>(intro w hSw;(have d1':=(hSw.cell zd1 0).trans d1;have b1':=(hSw.cell zb1 0).trans f1;have b2':=(hSw.cell zb1 1).trans f2;have gs':=(hSw.cell zs1 (os+m)).trans gs1);go_simp;try with_reducible rfl)
      refine layy ?_;refine' tkL 17 rfl ?h17_1419 ?_
      case h17_1419=>(intro w hSw;(have d1':=(hSw.cell zd1 0).trans d1;have b1':=(hSw.cell zb1 0).trans f1;have b2':=(hSw.cell zb1 1).trans f2;have gs':=(hSw.cell zs1 (os+m)).trans gs1);go_simp;try with_reducible rfl)
      refine layy ?_;refine' tkL 18 rfl ?h18_1420 ?_
      case h18_1420=>(intro w hSw;(have d1':=(hSw.cell zd1 0).trans d1;have b1':=(hSw.cell zb1 0).trans f1;have b2':=(hSw.cell zb1 1).trans f2;have gs':=(hSw.cell zs1 (os+m)).trans gs1);go_simp;try with_reducible rfl)
      refine layy ?_;refine' tkL 19 rfl ?h19_1421 ?_
      case h19_1421=>(intro w hSw;(have d1':=(hSw.cell zd1 0).trans d1;have b1':=(hSw.cell zb1 0).trans f1;have b2':=(hSw.cell zb1 1).trans f2;have gs':=(hSw.cell zs1 (os+m)).trans gs1);go_simp;try with_reducible rfl)
      refine layy ?_;refine' tkL 20 rfl ?h20_1422 ?_
      case h20_1422=>(intro w hSw;(have d1':=(hSw.cell zd1 0).trans d1;have b1':=(hSw.cell zb1 0).trans f1;have b2':=(hSw.cell zb1 1).trans f2;have gs':=(hSw.cell zs1 (os+m)).trans gs1);go_simp;try with_reducible rfl)
      refine layy ?_;refine' tkL 21 rfl ?h21_1423 ?_
      case h21_1423=>(intro w hSw;(have d1':=(hSw.cell zd1 0).trans d1;have b1':=(hSw.cell zb1 0).trans f1;have b2':=(hSw.cell zb1 1).trans f2;have gs':=(hSw.cell zs1 (os+m)).trans gs1);go_simp;try with_reducible rfl)
      refine layy ?_;refine' tkL 22 rfl ?h22_1424 ?_
      case h22_1424=>(intro w hSw;(have d1':=(hSw.cell zd1 0).trans d1;have b1':=(hSw.cell zb1 0).trans f1;have b2':=(hSw.cell zb1 1).trans f2;have gs':=(hSw.cell zs1 (os+m)).trans gs1);go_simp;try with_reducible rfl)
      refine layy ?_;refine wpAnyR_done (by kernel_rfl) ?_ _;intro x1 _ Ex1;have EX:=Lib.hid (hE1.trans Ex1);have c1':=(EX.out.cell zb 1).trans b1;have SA:=Lib.hid (fun W (hE:Ext x1 W) (j:Nat) (x:Int) (hx:Hp.rd ks j=some x) (W':World) (hE':Ext W W')=>B1.out W' (((E0.out.trans EX.out).trans hE).trans hE') gd gn gb x (D0.out.ext ((EX.out.trans hE).trans hE')) ((((EX.out.trans hE).trans hE').cell zn 0).trans m0) ((((EX.out.trans hE).trans hE').cell zb 0).trans b0) (HKR.out x (List.mem_of_getElem? hx)).1);have SK1:=Lib.hid (fun W (hE:Ext x1 W)=>SK.out.ext (((E0.out.trans EX.out).trans hE)));clear d0 b0 b1 m0 gs d1 f1 f2 gs1 t0;generalize hfn:(fun k=>kidN d k i (Hp.index d.order (m:Int)))=is at *
      go_wp2_with (go_at_call 189;refine (nAll (b:=res) (enters_of Tryz.func214 (by kernel_rfl) rfl) (SK1.out _ (exx)) (fun j x hx _ W' hE'=>(by rw [← hfn];exact SA.out _ (exx) j x hx W' hE')) HE4.out.symm).mono ?_;rintro e w2 ⟨rfl,hb2⟩;obtain ⟨hc2,hf2,hs2⟩:=hb2.cells)
      go_returns;exact ⟨rfl,((E0.out.trans EX.out)).trans hb2⟩
   · have t0:((ks.length:Int) != sz)=true:=by simpa using hne
     have e4:res=false:=by rw [HE3.out,decide_eq_false hne];rfl
     subst e4;clear hne HE3;have PR24:=Lib.hid (fun (ww:World) (hSw:Ext w0 ww)=>And.intro ((hSw.cell zd 0).trans d0) ((hSw.cell zb 0).trans b0));refine wp_region_seq (S:=fun W=>Ext w0 W) (R:=Ext) (by kernel_rfl) Ext.refl ?_ ?_
     · exact exx
     refine' tkL 0 rfl ?h0_1425 ?_
     case h0_1425=>(intro w q;obtain ⟨d0',b0'⟩:=PR24.out w q;go_simp;try with_reducible rfl)
     refine layy ?_;refine' tkL 1 rfl ?h1_1426 ?_
     case h1_1426=>(intro w q;obtain ⟨d0',b0'⟩:=PR24.out w q;go_simp;try with_reducible rfl)
     refine layy ?_;refine' tkL 2 rfl ?h2_1427 ?_
     case h2_1427=>(intro w q;obtain ⟨d0',b0'⟩:=PR24.out w q;go_simp;try with_reducible rfl)
     refine layy ?_;refine' tkL 3 rfl ?h3_1428 ?_
     case h3_1428=>(intro w q;obtain ⟨d0',b0'⟩:=PR24.out w q;go_simp;try with_reducible rfl)
     refine layy ?_;refine' tkL 4 rfl ?h4_1429 ?_
     case h4_1429=>(intro w q;obtain ⟨d0',b0'⟩:=PR24.out w q;go_simp;try with_reducible rfl)
     refine layy ?_;refine' tkL 5 rfl ?h5_1430 ?_
     case h5_1430=>(intro w q;obtain ⟨d0',b0'⟩:=PR24.out w q;go_simp;try with_reducible rfl)
     refine layy ?_;refine' tkL 6 rfl ?h6_1431 ?_
     case h6_1431=>(intro w q;obtain ⟨d0',b0'⟩:=PR24.out w q;go_simp;try with_reducible rfl)
     refine layy ?_;refine wpAnyR_do1 7 (fun u w''=>∃ g,u = .slice (some ⟨g,0,none⟩) 1 1 ∧ Ext w0 w'' ∧ SliceAt w'' (some ⟨g,0,none⟩) 1 [(m:Int)]) rfl (by kernel_rfl) (by rfl) ?run7 ?vs7 ?next7
     case run7=>
      intro w' hE hS;refine .inr ⟨.slice (some ⟨w'.heap.size,0,none⟩) 1 1,w'.alloc (.cells #[.int .i64 (m:Int)] 3), ?_,⟨_,rfl,((Ext.drew (Ext.refl w0)).trans hE).trans (Ext.alloc (Ext.refl _) _),SliceAt.one w' m HVR.1 HVR.2 _⟩⟩;go_simp
     case vs7=>
      rintro u w'' ⟨g,_,hE,_⟩ W hW;exact hE.trans hW
     case next7=>
      rintro u w1 ⟨g,rfl,hE1,hS1⟩;have WI:=Lib.hid (fun W (hE:Ext w1 W)=>nWithin_any (least:=0) (most:=(n1:Int)-1) (hS1.ext hE) e2);have d1:=(hE1.cell zd 0).trans d0;have f1:=(hE1.cell zb 0).trans b0;have f2:=(hE1.cell zb 1).trans b1;have gs1:=(hE1.cell hbs (os+m)).trans gs;have zd1:=cell_lt d1;have zb1:=cell_lt f1;have zs1:=cell_lt gs1;refine layy ?_;refine' tkR 8 (v:=.bool true) rfl (Or.inr ⟨by rfl,165,_, ?hx8_1432, ?hy8_1432⟩) ?rest8_1432
      case hx8_1432=>(intro w hSw;go_simp;try with_reducible rfl)
      case hy8_1432=>exact fun w hE=>(WI.out _ hE).mono (fun _ _ h=>⟨h.1,h.2,Ext.trans hE h.2⟩)
      refine layy ?_;refine' tkL 9 rfl ?h9_1433 ?_
      case h9_1433=>(intro w hSw;(have d1':=(hSw.cell zd1 0).trans d1;have b1':=(hSw.cell zb1 0).trans f1;have b2':=(hSw.cell zb1 1).trans f2;have gs':=(hSw.cell zs1 (os+m)).trans gs1);go_simp;try with_reducible rfl)
      refine layy ?_;refine' tkL 10 rfl ?h10_1434 ?_
      case h10_1434=>(intro w hSw;(have d1':=(hSw.cell zd1 0).trans d1;have b1':=(hSw.cell zb1 0).trans f1;have b2':=(hSw.cell zb1 1).trans f2;have gs':=(hSw.cell zs1 (os+m)).trans gs1);go_simp;try with_reducible rfl)
      refine layy ?_;refine' tkL 11 rfl ?h11_1435 ?_
      case h11_1435=>(intro w hSw;(have d1':=(hSw.cell zd1 0).trans d1;have b1':=(hSw.cell zb1 0).trans f1;have b2':=(hSw.cell zb1 1).trans f2;have gs':=(hSw.cell zs1 (os+m)).trans gs1);go_simp;try with_reducible rfl)
      refine layy ?_;refine' tkL 12 rfl ?h12_1436 ?_
      case h12_1436=>(intro w hSw;(have d1':=(hSw.cell zd1 0).trans d1;have b1':=(hSw.cell zb1 0).trans f1;have b2':=(hSw.cell zb1 1).trans f2;have gs':=(hSw.cell zs1 (os+m)).trans gs1);go_simp;try with_reducible rfl)
      refine layy ?_;refine' tkL 13 rfl ?h13_1437 ?_
      case h13_1437=>(intro w hSw;(have d1':=(hSw.cell zd1 0).trans d1;have b1':=(hSw.cell zb1 0).trans f1;have b2':=(hSw.cell zb1 1).trans f2;have gs':=(hSw.cell zs1 (os+m)).trans gs1);go_simp;try with_reducible rfl)
      refine layy ?_;refine' tkL 14 rfl ?h14_1438 ?_
      case h14_1438=>(intro w hSw;(have d1':=(hSw.cell zd1 0).trans d1;have b1':=(hSw.cell zb1 0).trans f1;have b2':=(hSw.cell zb1 1).trans f2;have gs':=(hSw.cell zs1 (os+m)).trans gs1);go_simp;try with_reducible rfl)
      refine layy ?_;refine' tkL 15 rfl ?h15_1439 ?_
      case h15_1439=>(intro w hSw;(have d1':=(hSw.cell zd1 0).trans d1;have b1':=(hSw.cell zb1 0).trans f1;have b2':=(hSw.cell zb1 1).trans f2;have gs':=(hSw.cell zs1 (os+m)).trans gs1);go_simp;try with_reducible rfl)
      refine layy ?_;refine' tkL 16 rfl ?h16_1440 ?_
      case h16_1440=>(intro w hSw;(have d1':=(hSw.cell zd1 0).trans d1;have b1':=(hSw.cell zb1 0).trans f1;have b2':=(hSw.cell zb1 1).trans f2;have gs':=(hSw.cell zs1 (os+m)).trans gs1);go_simp;try with_reducible rfl)
      refine layy ?_;refine' tkL 17 rfl ?h17_1441 ?_
      case h17_1441=>(intro w hSw;(have d1':=(hSw.cell zd1 0).trans d1;have b1':=(hSw.cell zb1 0).trans f1;have b2':=(hSw.cell zb1 1).trans f2;have gs':=(hSw.cell zs1 (os+m)).trans gs1);go_simp;try with_reducible rfl)
      refine layy ?_;refine' tkL 18 rfl ?h18_1442 ?_
      case h18_1442=>(intro w hSw;(have d1':=(hSw.cell zd1 0).trans d1;have b1':=(hSw.cell zb1 0).trans f1;have b2':=(hSw.cell zb1 1).trans f2;have gs':=(hSw.cell zs1 (os+m)).trans gs1);go_simp;try with_reducible rfl)
      refine layy ?_;refine' tkL 19 rfl ?h19_1443 ?_
      case h19_1443=>(intro w hSw;(have d1':=(hSw.cell zd1 0).trans d1;have b1':=(hSw.cell zb1 0).trans f1;have b2':=(hSw.cell zb1 1).trans f2;have gs':=(hSw.cell zs1 (os+m)).trans gs1);go_simp;try with_reducible rfl)
      refine layy ?_;refine' tkL 20 rfl ?h20_1444 ?_
      case h20_1444=>(intro w hSw;(have d1':=(hSw.cell zd1 0).trans d1;have b1':=(hSw.cell zb1 0).trans f1;have b2':=(hSw.cell zb1 1).trans f2;have gs':=(hSw.cell zs1 (os+m)).trans gs1);go_simp;try with_reducible rfl)
      refine layy ?_;refine' tkL 21 rfl ?h21_1445 ?_
      case h21_1445=>(intro w hSw;(have d1':=(hSw.cell zd1 0).trans d1;have b1':=(hSw.cell zb1 0).trans f1;have b2':=(hSw.cell zb1 1).trans f2;have gs':=(hSw.cell zs1 (os+m)).trans gs1);go_simp;try with_reducible rfl)
      refine layy ?_;refine' tkL 22 rfl ?h22_1446 ?_
      case h22_1446=>(intro w hSw;(have d1':=(hSw.cell zd1 0).trans d1;have b1':=(hSw.cell zb1 0).trans f1;have b2':=(hSw.cell zb1 1).trans f2;have gs':=(hSw.cell zs1 (os+m)).trans gs1);go_simp;try with_reducible rfl)
      refine layy ?_;refine wpAnyR_done (by kernel_rfl) ?_ _;intro x1 _ Ex1
      go_wp2_with fail
      go_returns;exact ⟨rfl,(E0.out.trans hE1).trans Ex1⟩
open Go.RowKit
theorem all_range {N B:Nat → Bool}:∀ n,(∀ i,i < n → (∀ j,j < i → B j=true) → N i=B i) → (List.range n).all N=(List.range n).all B
 | 0,_=>rfl
 | n+1,h=>by
  have ih:=all_range n (fun i hi=>h i (by omega));rw [List.range_succ,List.all_append,List.all_append,ih]
  cases hb:(List.range n).all B with
  | false=>simp
  | true=>
   rw [List.all_eq_true] at hb;have:=h n (by omega) (fun j hj=>hb j (List.mem_range.2 hj));simp [this]
theorem index_in {z o:List Int} (h:Hp.FrOk z o) {v:Int} (h0:0 ≤ v) (h1:v < z.length):0 ≤ Hp.index o v ∧ Hp.index o v < o.length:=by
 have hm:v ∈ o:=by
  have:=h.perm v.toNat (by omega)
  rwa [Int.toNat_of_nonneg h0] at this
 unfold Hp.index
 cases hf:o.findIdx? (· == v) with
 | none=>
  have:=List.findIdx?_eq_none_iff.1 hf v hm;simp at this
 | some i=>
  have:=(List.findIdx?_eq_some_iff_getElem.1 hf).1;exact ⟨by simp,by simp;omega⟩
theorem var_in {d:Nd.Dia} {i:Nat} (h:Hp.within 0 ((d.sizes.length:Int)-1) (d.nodeAt i).1=true):0 ≤ (d.nodeAt i).1 ∧ (d.nodeAt i).1 < d.sizes.length:=by
 simp only [Hp.within,Bool.and_eq_true,decide_eq_true_eq] at h
 omega
theorem branchB_var {d:Nd.Dia} {i:Nat} (h:branchB d i=true):0 ≤ (d.nodeAt i).1 ∧ (d.nodeAt i).1 < d.sizes.length:=by
 unfold branchB at h
 simp only [Bool.and_eq_true] at h
 exact var_in h.1.1
theorem rankO_in {d:Nd.Dia} (hf:Hp.FrOk d.sizes d.order) {i:Nat} (h:0 ≤ (d.nodeAt i).1 ∧ (d.nodeAt i).1 < d.sizes.length):rankO d (i:Int)=Hp.index d.order (d.nodeAt i).1:=by
 have:=index_in hf h.1 h.2
 unfold rankO
 rw [if_neg (by omega),Int.toNat_natCast,if_neg (by omega)]
theorem kidN_eq {d:Nd.Dia} (hf:Hp.FrOk d.sizes d.order) {i:Nat} (hi:0 ≤ (d.nodeAt i).1 ∧ (d.nodeAt i).1 < d.sizes.length) (hj:∀ j,j < i → branchB d j=true) (k:Int):kidN d k i (Hp.index d.order (d.nodeAt i).1)=kidB d i k:=by
 have hin:=index_in hf hi.1 hi.2
 unfold kidN kidB refB
 rw [rankO_in hf hi]
 by_cases hk:k < 0
 · rw [if_pos hk,if_neg (by omega)];have:rankO d k=d.order.length:=by unfold rankO;rw [if_pos hk]
   rw [this,decide_eq_true (show ¬ (d.order.length:Int) ≤ Hp.index d.order (d.nodeAt i).1 by omega),Bool.and_true]
 · rw [if_neg hk,if_pos (by omega)]
   by_cases hki:k < (i:Int)
   · obtain ⟨m,rfl⟩:∃ m:Nat,k=(m:Int):=⟨k.toNat,by omega⟩
     have hv:=branchB_var (hj m (by omega));rw [rankO_in hf hv,Int.toNat_natCast]
     congr 1
     by_cases hlt:Hp.index d.order (d.nodeAt m).1 > Hp.index d.order (d.nodeAt i).1
     · rw [decide_eq_true hlt,decide_eq_true (by omega)]
     · rw [decide_eq_false hlt,decide_eq_false (by omega)]
   · rw [decide_eq_false hki,Bool.false_and,Bool.false_and]
theorem branchN_eq {d:Nd.Dia} (hf:Hp.FrOk d.sizes d.order) {i:Nat} (hj:∀ j,j < i → branchB d j=true):branchN d i=branchB d i:=by
 unfold branchN branchB
 cases hw:Hp.within 0 ((d.sizes.length:Int)-1) (d.nodeAt i).1 with
 | false=>rfl
 | true=>
  have:=funext fun k=>kidN_eq hf (var_in hw) hj k
  rw [this]
theorem looseN_eq {d:Nd.Dia} (hf:Hp.FrOk d.sizes d.order):(d.ends.all cellOk && (List.range d.nodes.length).all (branchN d) && kidN d d.root d.nodes.length (-1))=looseB d:=by
 unfold looseB
 rw [all_range d.nodes.length (fun i _ hj=>branchN_eq hf hj)]
 cases hb:(List.range d.nodes.length).all (branchB d) with
 | false=>simp
 | true=>
  congr 1
  rw [List.all_eq_true] at hb;unfold kidN refB
  by_cases hk:d.root < 0
  · rw [if_pos hk,if_neg (by omega)]
  · rw [if_neg hk,if_pos (by omega)]
    by_cases hlt:d.root < (d.nodes.length:Int)
    · have hv:=branchB_var (hb d.root.toNat (List.mem_range.2 (by omega)));have:=index_in hf hv.1 hv.2;rw [decide_eq_true hlt,decide_eq_true (show Hp.index d.order (d.nodeAt d.root.toNat).1 > -1 by omega)];rfl
    · rw [decide_eq_false hlt,Bool.false_and]
set_option maxRecDepth 100000 in
set_option maxHeartbeats 4000000 in
theorem vEqual {w:World} {p q:Option Addr} {c d:Nat} {E F:List (Int × Int)} (h:RdN w 2 p c (E.map endC)) (k:RdN w 2 q d (F.map endC)) :
    Calls Tryz.prog 193 #[.slice p E.length c,.slice q F.length d] w fun e w'=>e = .returned (.bool (decide (E=F))) ∧ Ext w w':=by
  have hle:=h.le;have hcap:=h.cap;have hle':=k.le;have hcap':=k.cap;rw [List.length_map] at hle hle'
  by_cases hne:E.length=F.length
  case neg=>
   have e:decide (E=F)=false:=by
    apply decide_eq_false;intro e;exact hne (by rw [e])
   rw [e];clear h k e;generalize E.length=a at *;generalize F.length=b at *;have e1:((a:Int) == (b:Int))=false:=by simpa using (by omega:¬ (a:Int)=b)
   go_enter Tryz.func193,Tryz.ntmps193;go_wp2;go_returns;exact ⟨rfl,exx⟩
  case pos=>
   have H:=Lib.hid h;have K:=Lib.hid k;clear h k;rw [← hne];have HM:=Lib.hid hne;clear hne hle';generalize hL:E.length=n at hle ⊢;have HL:=Lib.hid hL;clear hL;have mixed:Tryz.prog.follows .mixedOrders=true:=by kernel_rfl
   go_enter Tryz.func193,Tryz.ntmps193;go_wp2
   go_loopg [13] n (fun g i wr=>∃ j:Nat,j ≤ n ∧ n-j ≤ g ∧ i = .int .i64 j ∧ Aside (Ext w wr) ∧ Aside (∀ i,i < j → E[i]? = F[i]?))
   case atStart=>exact ⟨0,Nat.zero_le _,by omega,rfl,Ext.refl w,fun m hm=>absurd hm (Nat.not_lt_zero _)⟩
   case round=>
    obtain ⟨j,hj,hg,rfl,HE,HA⟩:=hrel
    by_cases hlt:j < n
    · obtain ⟨f,hf⟩:=get_list (E:=E) (j:=j) (by rw [HL.out];exact hlt);obtain ⟨f',hf'⟩:=get_list (E:=F) (j:=j) (by rw [← HM.out,HL.out];exact hlt);obtain ⟨b,o,rfl,hb,hc⟩:=(H.out.ext HE.out).end_cells (by rw [HL.out];omega);obtain ⟨b',o',rfl,hb',hc'⟩:=(K.out.ext HE.out).end_cells (by rw [← HM.out,HL.out];omega);obtain ⟨g1,g2⟩:=hc j f hf;obtain ⟨k1,k2⟩:=hc' j f' hf';have EQ:=fun u=>eq_val f.1 f.2 f'.1 f'.2 u
      have HF:=Lib.hid hf;have HF':=Lib.hid hf';clear hf hc hf' hc';obtain ⟨f1,f2⟩:=f;obtain ⟨f1',f2'⟩:=f'
      by_cases he:(f1,f2)=(f1',f2')
      · simp only [he,decide_true] at EQ
        cases he
        go_wp2_with fail
        go_region_o
        go_wp2
        go_roundg (n-(j+1))
        case measure=>omega
        case rel=>
         refine ⟨j+1,by omega,by omega,by go_num,(show Aside _ from HE.out.drew),(show Aside _ from fun i hi=>?_)⟩
         by_cases e:i=j
         · subst e;rw [HF.out,HF'.out]
         · exact HA.out i (by omega)
      · simp only [he,decide_false] at EQ
        go_wp2_with fail
        go_region_o
        go_wp2;go_returns;refine ⟨?_,HE.out.drew⟩;have e:decide (E=F)=false:=by
         apply decide_eq_false;rintro rfl;have:=HF.out;rw [HF'.out] at this
         cases this
         exact he rfl
        rw [e];rfl
    · have:j=n:=by omega
      subst this;go_wp2;go_returns;refine ⟨?_,HE.out⟩;have e:decide (E=F)=true:=decide_eq_true (list_eq_of_get HM.out (by rw [HL.out];exact HA.out));rw [e];rfl
set_option maxRecDepth 100000 in
set_option maxHeartbeats 4000000 in
theorem nEqual1 {w:World} {p q:Option Addr} {c e':Nat} {v v':Int} {l l':List Int} (h:SliceAt w p c l) (k:SliceAt w q e' l') :
    Calls Tryz.prog 192 #[.agg #[.int .i64 v,.slice p l.length c],.agg #[.int .i64 v',.slice q l'.length e']] w fun e w'=>e = .returned (.bool (decide ((v,l)=(v',l')))) ∧ Ext w w':=by
  obtain ⟨bs,hbs⟩:∃ b,decide (l=l')=b:=⟨_,rfl⟩
  have SM:=Lib.hid (fun W (hE:Ext w W)=>(by have:=sEqual_any (h.ext hE) (k.ext hE);rw [hbs] at this;exact this:Calls Tryz.prog 101 #[.slice p l.length c,.slice q l'.length e'] W fun e w'=>e = .returned (.bool bs) ∧ Ext W w'))
  by_cases hv:v=v'
  · subst hv;have e:decide ((v,l)=(v,l'))=bs:=by
     rw [← hbs]
     by_cases hl:l=l'
     · subst hl;simp
     · rw [decide_eq_false hl,decide_eq_false (fun e=>hl (Prod.mk.inj e).2)]
    rw [e];clear e hbs h k;generalize l.length=n1 at *;generalize l'.length=n2 at *;have t0:(v == v)=true:=by simp
    go_enter Tryz.func192,Tryz.ntmps192
    go_wp2_with (go_at_call 101;refine (SM.out _ (exx)).mono ?_;rintro e w1 ⟨rfl,hb1⟩;obtain ⟨hc1,hf1,hs1⟩:=hb1.cells)
    go_returns;exact ⟨rfl,exx⟩
  · have t0:(v == v')=false:=by simpa using hv
    have e:decide ((v,l)=(v',l'))=false:=decide_eq_false (fun e=>hv (Prod.mk.inj e).1);rw [e];clear e hbs h k;generalize l.length=n1 at *;generalize l'.length=n2 at *;go_enter Tryz.func192,Tryz.ntmps192
    go_wp2_with fail
    go_returns;exact ⟨rfl,exx⟩
structure NdRd (w:World) (p:Option Addr) (c:Nat) (K:List (Option Addr × Nat)) (N:List (Int × List Int)):Prop where
 n:RdN w 2 p c (List.zipWith nodeC N K)
 kl:K.length=N.length
 ks:∀ (j:Nat) (q:Int × List Int) (k:Option Addr × Nat),N[j]? = some q → K[j]? = some k → SliceAt w k.1 k.2 q.2
theorem DgRd.nd {w:World} {L:DgL} {z o:List Int} {E:List (Int × Int)} {N:List (Int × List Int)} (h:DgRd w L z o E N):NdRd w L.pn L.cn L.K N:=⟨h.n,h.kl,h.ks⟩
theorem NdRd.ext {w w':World} {p:Option Addr} {c:Nat} {K:List (Option Addr × Nat)} {N:List (Int × List Int)} (h:NdRd w p c K N) (k:Ext w w'):NdRd w' p c K N:=⟨h.n.ext k,h.kl,fun j q kk h1 h2=>(h.ks j q kk h1 h2).ext k⟩
theorem NdRd.cells {w:World} {p:Option Addr} {c:Nat} {K:List (Option Addr × Nat)} {N:List (Int × List Int)} (h:NdRd w p c K N) (h0:0 < N.length):∃ b o,p=some ⟨b,o,none⟩ ∧ b < w.heap.size ∧
    ∀ (j:Nat) (q:Int × List Int) (k:Option Addr × Nat),N[j]? = some q → K[j]? = some k → w.cell? ⟨b,o+j * 2,none⟩=some (.int .i64 q.1) ∧ w.cell? ⟨b,o+j * 2+1,none⟩=some (.slice k.1 q.2.length k.2):=by
  obtain ⟨b,o',e,hb,hc⟩:=h.n.cells (by rw [zip_nodeC_len h.kl];exact h0);refine ⟨b,o',e,hb,fun j q k hq hk=>⟨?_, ?_⟩⟩
  · exact hc j _ 0 _ (zip_nodeC_get hq hk) rfl
  · exact hc j _ 1 _ (zip_nodeC_get hq hk) rfl
set_option maxRecDepth 100000 in
set_option maxHeartbeats 8000000 in
theorem nEqualFunc {w:World} {p q:Option Addr} {c e':Nat} {K M:List (Option Addr × Nat)} {N N':List (Int × List Int)} (h:NdRd w p c K N) (k:NdRd w q e' M N') :
    Calls Tryz.prog 194 #[.slice p N.length c,.slice q N'.length e',.func (.func 192) #[] #[]] w fun e w'=>e = .returned (.bool (decide (N=N'))) ∧ Ext w w':=by
  have l4:=h.n.le;have c4:=h.n.cap;have l4':=k.n.le;have c4':=k.n.cap;rw [zip_nodeC_len h.kl] at l4;rw [zip_nodeC_len k.kl] at l4'
  by_cases hne:N.length=N'.length
  case neg=>
   have e:decide (N=N')=false:=decide_eq_false fun e=>hne (by rw [e])
   rw [e];clear h k e;generalize N.length=a at *;generalize N'.length=b at *;have e1:((a:Int) != (b:Int))=true:=by simpa using (by omega:¬ (a:Int)=b)
   go_enter Tryz.func194,Tryz.ntmps194;go_wp2;go_returns;exact ⟨rfl,exx⟩
  case pos=>
   have H:=Lib.hid h;have KK:=Lib.hid k;have HK:=Lib.hid h.kl;have HM:=Lib.hid k.kl;have HN:=Lib.hid hne;have eg:∀ args w,(callFunc 192 args).run Tryz.prog w = .ok (.enter 192 args) w:=enters_of Tryz.func192 (by kernel_rfl) rfl
   clear h k;rw [← hne] at l4' ⊢;clear hne;generalize hL:N.length=n at *;have HL:=Lib.hid hL;clear hL;generalize hres:decide (N=N')=res;have HRES:=Lib.hid hres;clear hres;go_enter Tryz.func194,Tryz.ntmps194
   go_wp2_with fail
   go_loopg [17] n (fun gg i wr=>∃ j:Nat,j ≤ n ∧ n-j ≤ gg ∧ i = .int .i64 j ∧ Aside (Ext w wr) ∧ Aside (∀ i,i < j → N[i]? = N'[i]?))
   case atStart=>exact ⟨0,Nat.zero_le _,by omega,rfl,(show Aside _ from Ext.refl w),(show Aside _ from fun m hm=>absurd hm (Nat.not_lt_zero _))⟩
   case round=>
    obtain ⟨j,hj,hg,rfl,HE,HA⟩:=hrel
    by_cases hlt:j < n
    · obtain ⟨f,hf⟩:=get_list (E:=N) (j:=j) (by rw [HL.out];exact hlt);obtain ⟨f',hf'⟩:=get_list (E:=N') (j:=j) (by rw [← HN.out];exact hlt);obtain ⟨kq,hq⟩:=get_list (E:=K) (j:=j) (by rw [HK.out];exact hlt);obtain ⟨kq',hq'⟩:=get_list (E:=M) (j:=j) (by rw [HM.out,← HN.out];exact hlt);obtain ⟨b,o,rfl,hb,hc⟩:=(H.out.ext HE.out).cells (by rw [HL.out];omega);obtain ⟨b',o',rfl,hb',hc'⟩:=(KK.out.ext HE.out).cells (by rw [← HN.out];omega);obtain ⟨g1,g2⟩:=hc j f kq hf hq;obtain ⟨k1,k2⟩:=hc' j f' kq' hf' hq';have tk:decide ((j:Int) < (n:Int))=true:=decide_eq_true (by omega);have CA:=Lib.hid (fun W (hE:Ext wr W)=>nEqual1 (v:=f.1) (v':=f'.1) (((H.out.ext HE.out).ks j f kq hf hq).ext hE) (((KK.out.ext HE.out).ks j f' kq' hf' hq').ext hE));have HF:=Lib.hid hf;have HF':=Lib.hid hf';clear hf hc hf' hc' hq hq'
      by_cases he:f=f'
      · have e1:decide ((f.1,f.2)=(f'.1,f'.2))=true:=decide_eq_true (by rw [he]);rw [e1] at CA;have HEE:=Lib.hid he;clear he e1
        go_wp2_with (go_at_fn 192;refine (Calls.mono (CA.out _ (exx)) ?_);rintro e w' ⟨rfl,hb9⟩)
        go_roundg (n-(j+1))
        case measure=>omega
        case rel=>
         refine ⟨j+1,by omega,by omega,by go_num,(show Aside _ from HE.out.trans (show Ext wr _ from exx)),(show Aside _ from fun i hi=>?_)⟩
         by_cases e:i=j
         · subst e;rw [HF.out,HF'.out,HEE.out]
         · exact HA.out i (by omega)
      · have e1:decide ((f.1,f.2)=(f'.1,f'.2))=false:=decide_eq_false he;rw [e1] at CA;have er:res=false:=by
         rw [← HRES.out];apply decide_eq_false;rintro rfl;have:=HF.out;rw [HF'.out] at this
         cases this
         exact he rfl
        subst er;clear he e1
        go_wp2_with (go_at_fn 192;refine (Calls.mono (CA.out _ (exx)) ?_);rintro e w' ⟨rfl,hb9⟩)
        go_returns;exact ⟨rfl,HE.out.trans (show Ext wr _ from exx)⟩
    · have tk:decide ((j:Int) < (n:Int))=false:=decide_eq_false (by omega);have hjn:j=n:=by omega
      have er:res=true:=by
       rw [← HRES.out];exact decide_eq_true (list_eq_of_get (by rw [HL.out];exact HN.out) (by rw [HL.out,← hjn];exact HA.out))
      subst er;clear hjn
      go_wp2_with fail
      go_returns;exact ⟨rfl,HE.out⟩
set_option maxRecDepth 100000 in
set_option maxHeartbeats 16000000 in
theorem nEqual {w:World} {L M:DgL} {d e:Nd.Dia} {q1 q2 q3 q4:Bool} (h:DgRd w L d.sizes d.order d.ends d.nodes) (k:DgRd w M e.sizes e.order e.ends e.nodes) (h1:decide (d.sizes=e.sizes)=q1) (h2:decide (d.order=e.order)=q2) (h3:decide (d.ends=e.ends)=q3) (h4:decide (d.nodes=e.nodes)=q4) :
    Calls Tryz.prog 180 #[dgV L d.sizes.length d.order.length d.ends.length d.nodes.length d.root,dgV M e.sizes.length e.order.length e.ends.length e.nodes.length e.root] w fun r w'=>r = .returned (.bool (q1 && (q2 && (q3 && (q4 && (d.root == e.root)))))) ∧ Ext w w':=by
  have Z':=Lib.hid (fun W (hE:Ext w W)=>sEqual_is h1 (h.s.ext hE) (k.s.ext hE));have O':=Lib.hid (fun W (hE:Ext w W)=>sEqual_is h2 (h.o.ext hE) (k.o.ext hE));have V':=Lib.hid (fun W (hE:Ext w W)=>by have:=vEqual (h.e.ext hE) (k.e.ext hE);rw [h3] at this;exact this);have B':=Lib.hid (fun W (hE:Ext w W)=>by have:=nEqualFunc (h.nd.ext hE) (k.nd.ext hE);rw [h4] at this;exact this);unfold dgV DgL.cells;clear h k h1 h2 h3 h4;generalize d.sizes.length=n1 at *;generalize d.order.length=n2 at *;generalize d.ends.length=n3 at *;generalize d.nodes.length=n4 at *;generalize d.root=rt at *;generalize e.sizes.length=m1 at *;generalize e.order.length=m2 at *;generalize e.ends.length=m3 at *;generalize e.nodes.length=m4 at *;generalize e.root=rs at *;have mixed:Tryz.prog.follows .mixedOrders=true:=by kernel_rfl
  cases q1 <;> cases q2 <;> cases q3 <;> cases q4 <;> (
   go_enter Tryz.func180,Tryz.ntmps180
   go_wp2_with (first
    | (have _t:=hb1;go_at_call 101;refine (O'.out _ (exx)).mono ?_;rintro e w2 ⟨rfl,hb2⟩;obtain ⟨hc2,hf2,hs2⟩:=hb2.cells;have y2:w.heap.size < w2.heap.size:=(by have h:=hb2.le;(try simp at h);omega);have x2:w.heap.size+1 < w2.heap.size:=(by have h:=hb2.le;(try simp at h);omega))
    | (go_at_call 101;refine (Z'.out _ (exx)).mono ?_;rintro e w1 ⟨rfl,hb1⟩;obtain ⟨hc1,hf1,hs1⟩:=hb1.cells;have y1:w.heap.size < w1.heap.size:=(by have h:=hb1.le;(try simp at h);omega);have x1:w.heap.size+1 < w1.heap.size:=(by have h:=hb1.le;(try simp at h);omega))
    | (go_at_call 193;refine (V'.out _ (exx)).mono ?_;rintro e w3 ⟨rfl,hb3⟩;obtain ⟨hc3,hf3,hs3⟩:=hb3.cells;have y3:w.heap.size < w3.heap.size:=(by have h:=hb3.le;(try simp at h);omega);have x3:w.heap.size+1 < w3.heap.size:=(by have h:=hb3.le;(try simp at h);omega))
    | (go_at_call 194;refine (B'.out _ (exx)).mono ?_;rintro e w4 ⟨rfl,hb4⟩;obtain ⟨hc4,hf4,hs4⟩:=hb4.cells))
   go_returns;exact ⟨rfl,exx⟩)
structure KeyEnc {κ:Type} (kt:TypeId) (enc:κ → Value) (ok:κ → Prop):Prop where
 keyed:Maps.Keyed Tryz.prog kt
 tot:∀ x,ok x → ∃ kl,keyOf Tryz.prog kt (enc x)=some kl
 inj:∀ x y,enc x=enc y → x=y
def posL {κ:Type} [BEq κ] [LawfulBEq κ] (E:List κ) (x:κ) (z:DataW Unit):DataW Unit:=match E.idxOf? x with | some i=>.lit (.int .i64 (i:Int)) | none=>z
def IxAt {κ:Type} [BEq κ] [LawfulBEq κ] (kt:TypeId) (enc:κ → Value) (w:World) (g:Nat) (E:List κ):Prop:=
 ∃ D:DataW Unit,w.ownsMap Tryz.prog kt (plainElem (H:=Unit) Tryz.prog 3) g E.length D ∧ ∀ (x:κ) (kl:Lit),keyOf Tryz.prog kt (enc x)=some kl → (∀ z,D.atKey kl z=posL E x z) ∧ Maps.has D kl=(E.idxOf? x).isSome
theorem idxOf_snoc {κ:Type} [BEq κ] [LawfulBEq κ] {x y:κ}:∀ {E:List κ},x ∉ E → (E ++ [x]).idxOf? y=if y == x then some E.length else E.idxOf? y
 | [],_=>by
  by_cases h:y=x
  · subst h;simp [List.idxOf?_cons]
  · have h2:(y == x)=false:=by simpa using h
    have h3:(x == y)=false:=by simpa using fun e=>h (Eq.symm e)
    simp [List.idxOf?_cons,h2,h3]
 | a :: r,h=>by
  simp only [List.mem_cons,not_or] at h;rw [List.cons_append,List.idxOf?_cons,List.idxOf?_cons,idxOf_snoc h.2]
  by_cases e:a=y
  · subst e;have h2:(a == x)=false:=by simpa using fun e=>h.1 (Eq.symm e)
    simp [h2]
  · have e':(a == y)=false:=by simpa using e
    by_cases e2:y=x
    · subst e2;simp [e']
    · have h2:(y == x)=false:=by simpa using e2
      simp [e',h2]
namespace IxAt
variable {κ:Type} [BEq κ] [LawfulBEq κ] {kt t:TypeId} {enc:κ → Value} {ok:κ → Prop} {w w':World} {g:Nat} {E:List κ}
theorem made (w:World):IxAt kt enc (w.alloc (.map #[] 0)) w.heap.size ([]:List κ):=
 ⟨_,World.ownsMap_made w Tryz.prog kt (plainElem (H:=Unit) Tryz.prog 3),fun _ _ _=>⟨fun _=>rfl,rfl⟩⟩
theorem lt (h:IxAt kt enc w g E):g < w.heap.size:=by
 obtain ⟨D,h1,_⟩:=h
 exact h1.lt
theorem ofBlock (h:IxAt kt enc w g E) (e:w'.heap[g]? = w.heap[g]?):IxAt kt enc w' g E:=by
 obtain ⟨D,⟨es,clock,hb,r⟩,h2⟩:=h
 exact ⟨D,⟨es,clock,e.trans hb,r⟩,h2⟩
theorem but (h:IxAt kt enc w g E) {l:List Nat} (k:But l w w') (hg:g ∉ l):IxAt kt enc w' g E:=h.ofBlock (k.block g h.lt hg)
theorem ext (h:IxAt kt enc w g E) (k:Ext w w'):IxAt kt enc w' g E:=h.ofBlock (k.block g h.lt)
theorem lookOk (h:IxAt kt enc w g E) (K:KeyEnc kt enc ok) (ht:Tryz.prog.underlying t=some (.map kt 3)) {x:κ} (hx:ok x) :
    (Instr.lookup t (.map (some g)) (enc x) true).run Tryz.prog w = .ok (.tuple #[.int .i64 (match E.idxOf? x with | some i=>(i:Int) | none=>0),.bool (E.idxOf? x).isSome]) w:=by
  obtain ⟨D,h1,h2⟩:=h;obtain ⟨kl,hk⟩:=K.tot x hx;obtain ⟨v,ps,hrun,hv⟩:=h1.look_ok K.keyed ht (Tryz.zeroValue3 w) (plainElem_int Tryz.underlying3 (by decide)) hk;obtain ⟨c,rfl,hc,_⟩:=plainElem_int_inv Tryz.underlying3 hv;obtain ⟨a1,a2⟩:=h2 x kl hk;rw [hrun,a2];rw [a1] at hc;unfold posL at hc
  cases hi:E.idxOf? x with
  | none=>
   rw [hi] at hc;simp only [Prod.mk.injEq,DataW.lit.injEq,Lit.int.injEq,true_and] at hc;rw [← hc.1]
  | some i=>
   rw [hi] at hc;simp only [Prod.mk.injEq,DataW.lit.injEq,Lit.int.injEq,true_and] at hc;rw [← hc.1]
theorem put (h:IxAt kt enc w g E) (K:KeyEnc kt enc ok) (ht:Tryz.prog.underlying t=some (.map kt 3)) {x:κ} (hx:ok x) (hn:E.length ≤ 1000000) (hne:x ∉ E) :
    ∃ w',(Instr.mapUpdate t (.map (some g)) (enc x) (.int .i64 (E.length:Int))).run Tryz.prog w = .ok () w' ∧ IxAt kt enc w' g (E ++ [x]) ∧ w.mapTurned w' g:=by
  obtain ⟨D,h1,h2⟩:=h;obtain ⟨kl,hk⟩:=K.tot x hx;have wf:(Lit.int .i64 (E.length:Int)).wf=true:=WalkArith.wf_i64 (by omega);obtain ⟨w',hrun,ho,ht'⟩:=h1.store K.keyed ht (by unfold maxLen;omega) hk (plainElem_int Tryz.underlying3 wf);have hD:IsMap D:=by
   obtain ⟨es,e,_⟩:=h1.canon K.keyed;exact ⟨es,e⟩
  refine ⟨w',hrun,⟨_,by rw [List.length_append];exact ho,fun y kl' hk'=>?_⟩,ht'⟩;rw [idxOf_snoc hne];unfold posL;rw [idxOf_snoc hne]
  by_cases e:y=x
  · subst e;have:kl'=kl:=by rw [hk] at hk';exact (Option.some.inj hk').symm
    subst this;rw [if_pos (by simp)];exact ⟨fun z=>atKey_put_same hD (K.keyed.key hk) _ _,has_put_same hD (K.keyed.key hk) _⟩
  · have hkl:kl' ≠ kl:=fun e2=>e (K.inj _ _ (K.keyed.inj hk' (e2 ▸ hk)))
    rw [if_neg (by simpa using e),has_put_other hkl];exact ⟨fun z=>by rw [atKey_put_other hkl];exact (h2 y kl' hk').1 z,(h2 y kl' hk').2⟩
end IxAt
open Go.RowKit Go.Maps
theorem nkeyKT:Tryz.prog.keyTypeAt 3 204=true:=by kernel_rfl
theorem nkeyTI:Tryz.prog.tiled 3 204=true:=by kernel_rfl
theorem nkeyLaw:WideMaps.KeyLaw Tryz.prog 204:=deep_law (m:=3) three_le nkeyKT nkeyTI (by rw [Tryz.underlying204])
theorem cellsOf_nkey:Tryz.prog.cellsOf 204=13:=by kernel_rfl
theorem keyType_nkey:Tryz.prog.keyType 204=true:=by kernel_rfl
theorem keyOf_nkey {l:List Int} (hl:l.length=13) (h:∀ x ∈ l,-9223372036854775808 ≤ x ∧ x ≤ 9223372036854775807):∃ k,keyOf Tryz.prog 204 (.agg (ints l).toArray)=some k:=by
 match l,hl with
 | [a0,a1,a2,a3,a4,a5,a6,a7,a8,a9,a10,a11,a12],_=>
  obtain ⟨d,hd⟩:∃ d,Tryz.prog.types.size=d+2:=⟨Tryz.prog.types.size-2,by have:=types_le;omega⟩
  have e:∀ x ∈ [a0,a1,a2,a3,a4,a5,a6,a7,a8,a9,a10,a11,a12],∀ d,Tryz.prog.keyLits (d+1) 3 [.int .i64 x]=some [.int .i64 x]:=fun x hx d=>keyLits_int d (h x hx)
  have arr:∃ k,Tryz.prog.keyLits (d+2) 150 [.int .i64 a1,.int .i64 a2,.int .i64 a3,.int .i64 a4,.int .i64 a5,.int .i64 a6,.int .i64 a7,.int .i64 a8,.int .i64 a9,.int .i64 a10,.int .i64 a11,.int .i64 a12]=some k:=by
   unfold Program.keyLits;rw [Tryz.underlying150];simp only [cellsOf_arr,cellsOf_int];simp [List.range,List.range.loop,e a1 (by simp),e a2 (by simp),e a3 (by simp),e a4 (by simp),e a5 (by simp),e a6 (by simp),e a7 (by simp),e a8 (by simp),e a9 (by simp),e a10 (by simp),e a11 (by simp),e a12 (by simp)]
  obtain ⟨k,hk⟩:=arr;have top:∃ k,Tryz.prog.keyLits (d+3) 204 [.int .i64 a0,.int .i64 a1,.int .i64 a2,.int .i64 a3,.int .i64 a4,.int .i64 a5,.int .i64 a6,.int .i64 a7,.int .i64 a8,.int .i64 a9,.int .i64 a10,.int .i64 a11,.int .i64 a12]=some k:=by
   unfold Program.keyLits;rw [Tryz.underlying204];simp only [cellsOf_nkey];simp [cellsOf_arr,cellsOf_int,e a0 (by simp),hk]
  obtain ⟨k',hk'⟩:=top;unfold keyOf;rw [Tryz.underlying204];simp only;have hf:(Value.agg (ints [a0,a1,a2,a3,a4,a5,a6,a7,a8,a9,a10,a11,a12]).toArray).formed Tryz.prog 204=true:=by
   simp [Value.formed,Tryz.underlying204,cellsOf_nkey,ints]
  rw [keyType_nkey,hf,hd];simp only [Bool.and_self,if_true];rw [show (Value.agg (ints [a0,a1,a2,a3,a4,a5,a6,a7,a8,a9,a10,a11,a12]).toArray).cells.toList=[.int .i64 a0,.int .i64 a1,.int .i64 a2,.int .i64 a3,.int .i64 a4,.int .i64 a5,.int .i64 a6,.int .i64 a7,.int .i64 a8,.int .i64 a9,.int .i64 a10,.int .i64 a11,.int .i64 a12] from rfl,hk'];exact ⟨_,rfl⟩
def encN (l:List Int):Value:=.agg (ints l).toArray
def okN (l:List Int):Prop:=l.length=13 ∧ ∀ x ∈ l,-9223372036854775808 ≤ x ∧ x ≤ 9223372036854775807
theorem keyN:KeyEnc 204 encN okN:=⟨Maps.Keyed.of_law nkeyLaw,fun _ hx=>keyOf_nkey hx.1 hx.2,fun _ _ e=>ints_inj (List.toArray_inj (Value.agg.inj e))⟩
theorem valKT:Tryz.prog.keyTypeAt 3 43=true:=by kernel_rfl
theorem valTI:Tryz.prog.tiled 3 43=true:=by kernel_rfl
theorem valLaw:WideMaps.KeyLaw Tryz.prog 43:=deep_law (m:=3) three_le valKT valTI (by rw [Tryz.underlying43])
theorem cellsOf_val:Tryz.prog.cellsOf 43=2:=by kernel_rfl
theorem cellsOf_u8:Tryz.prog.cellsOf 5=1:=by kernel_rfl
theorem keyType_val:Tryz.prog.keyType 43=true:=by kernel_rfl
def encV (v:Int × Int):Value:=.agg #[.int .u8 v.1,.int .i64 v.2]
def okV (v:Int × Int):Prop:=(0 ≤ v.1 ∧ v.1 ≤ 255) ∧ -9223372036854775808 ≤ v.2 ∧ v.2 ≤ 9223372036854775807
theorem keyLits_u8 (d:Nat) {x:Int} (h:0 ≤ x ∧ x ≤ 255):Tryz.prog.keyLits (d+1) 5 [.int .u8 x]=some [.int .u8 x]:=by
 unfold Program.keyLits
 rw [Tryz.underlying5]
 have wf:(Lit.int .u8 x).wf=true:=WalkArith.wf_u8 (by omega)
 simp [wf]
theorem keyOf_val {v:Int × Int} (h:okV v):∃ k,keyOf Tryz.prog 43 (encV v)=some k:=by
 obtain ⟨f,n⟩:=v
 obtain ⟨h1,h2⟩:=h
 obtain ⟨d,hd⟩:∃ d,Tryz.prog.types.size=d+2:=⟨Tryz.prog.types.size-2,by have:=types_le;omega⟩
 have top:∃ k,Tryz.prog.keyLits (d+3) 43 [.int .u8 f,.int .i64 n]=some k:=by
  unfold Program.keyLits;rw [Tryz.underlying43];simp only [cellsOf_val];simp [cellsOf_u8,cellsOf_int,keyLits_u8 _ h1,keyLits_int _ h2]
 obtain ⟨k',hk'⟩:=top
 unfold keyOf
 rw [Tryz.underlying43]
 simp only
 have hf:(encV (f,n)).formed Tryz.prog 43=true:=by
  simp [encV,Value.formed,Tryz.underlying43,cellsOf_val]
 rw [keyType_val,hf,hd]
 simp only [Bool.and_self,if_true]
 rw [show (encV (f,n)).cells.toList=[.int .u8 f,.int .i64 n] from rfl,hk']
 exact ⟨_,rfl⟩
theorem keyV:KeyEnc 43 encV okV:=⟨Maps.Keyed.of_law valLaw,fun _ hx=>keyOf_val hx,fun x y e=>by
 obtain ⟨a,b⟩:=x
 obtain ⟨c,d⟩:=y
 have:=Value.agg.inj e
 simp at this
 rw [this.1,this.2]⟩
def keyQ (q:Int × List Int):List Int:=q.1 :: (q.2 ++ List.replicate (12-q.2.length) 0)
theorem keyQ_ok {q:Int × List Int} (h1:q.2.length ≤ 12) (h2 : -9223372036854775808 ≤ q.1 ∧ q.1 ≤ 9223372036854775807) (h3:∀ x ∈ q.2,-9223372036854775808 ≤ x ∧ x ≤ 9223372036854775807):okN (keyQ q):=by
 refine ⟨by simp [keyQ];omega,fun x hx=>?_⟩
 unfold keyQ at hx
 rcases List.mem_cons.1 hx with rfl | hx
 · exact h2
 · rcases List.mem_append.1 hx with hx | hx
   · exact h3 x hx
   · rw [List.eq_of_mem_replicate hx];omega
theorem keyQ_inj {q r:Int × List Int} (h:q.1=r.1 → q.2.length=r.2.length) (e:keyQ q=keyQ r):q=r:=by
 unfold keyQ at e
 injection e with e1 e2
 obtain ⟨a,l⟩:=q
 obtain ⟨b,m⟩:=r
 simp only at e1 e2 h
 subst e1
 rw [(List.append_inj e2 (h rfl)).1]
theorem idxOf_map {α β:Type} [BEq α] [LawfulBEq α] [BEq β] [LawfulBEq β] {f:α → β} {x:α}:∀ {E:List α},(∀ y ∈ E,f y=f x → y=x) → (E.map f).idxOf? (f x)=E.idxOf? x
 | [],_=>rfl
 | a :: r,h=>by
  rw [List.map_cons,List.idxOf?_cons,List.idxOf?_cons,idxOf_map (fun y hy=>h y (by simp [hy]))]
  by_cases e:a=x
  · subst e;simp
  · have e2:¬ f a=f x:=fun e2=>e (h a (by simp) e2)
    simp [e,e2]
end Go.Proofs.YtdokmmhjmclmnaaGreat
