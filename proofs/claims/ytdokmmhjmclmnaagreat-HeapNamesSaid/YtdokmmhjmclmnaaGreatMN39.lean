/-
  Part 39 of a proof: NM10 HN1 HP1 HP2 HP3.
-/
import Derived.Test.YtdokmmhjmclmnaaGreatMN13
import Derived.Test.YtdokmmhjmclmnaaGreatMN22
import Derived.Test.YtdokmmhjmclmnaaGreatMN28
import Derived.Test.YtdokmmhjmclmnaaGreatMN38
set_option linter.unusedSimpArgs false
set_option linter.unusedVariables false
set_option linter.unusedSectionVars false
set_option linter.unnecessarySimpa false
namespace Go.Proofs.YtdokmmhjmclmnaaGreat
open Go.RowKit Go.Maps
theorem cellOk_val {v:Int × Int} (h0:0 ≤ v.1) (h:cellOk v=true):okV v:=by
 unfold cellOk at h
 split at h
 · simp only [Hp.within,Bool.and_eq_true,decide_eq_true_eq] at h;unfold okV;omega
 · simp only [Bool.and_eq_true,decide_eq_true_eq] at h;unfold okV;omega
theorem looseB_in {d:Nd.Dia} {L:DgL} (fr:Hp.FrOk d.sizes d.order) (h:looseB d=true) (hN:DgNumN d L):CnIn d:=by
 have hlow:=(looseB_low h).1
 unfold looseB at h
 simp only [Bool.and_eq_true,List.all_eq_true,List.mem_range] at h
 obtain ⟨⟨h1,h2⟩,h3⟩:=h
 have hnode:∀ q ∈ d.nodes,(0 ≤ q.1 ∧ q.1 < d.sizes.length) ∧ (q.2.length:Int)=d.sizes.getD q.1.toNat 0:=fun q hq=>by
  obtain ⟨i,hi⟩:=List.mem_iff_getElem?.1 hq;have hil:=(List.getElem?_eq_some_iff.1 hi).1;have:=h2 i hil;unfold branchB at this;have hqa:d.nodeAt i=q:=by unfold Nd.Dia.nodeAt;rw [hi];rfl
  rw [hqa] at this;simp only [Bool.and_eq_true,Hp.within,decide_eq_true_eq] at this;exact ⟨by omega,this.1.2⟩
 have hlen:∀ q ∈ d.nodes,1 ≤ (q.2.length:Int) ∧ (q.2.length:Int) ≤ 12:=fun q hq=>by
  obtain ⟨a1,a2⟩:=hnode q hq;rw [a2,List.getD_eq_getElem?_getD,List.getElem?_eq_getElem (by omega)];exact fr.toFr.pos _ (List.getElem_mem (by omega))
 exact
  { low:=hlow
    el:=hN.el1
    nl:=hN.nl1
    ends:=fun v hv=>cellOk_val (hN.f v hv) (h1 v hv)
    k0:=fun q hq e=>by have:=(hlen q hq).1;rw [e] at this;simp at this
    k12:=fun q hq=>by have:=(hlen q hq).2;omega
    var:=hN.vars
    one:=fun q hq r hr e=>by
     have h1:=(hnode q hq).2;have h2:=(hnode r hr).2;rw [e,← h2] at h1;omega }
set_option maxRecDepth 100000 in
set_option maxHeartbeats 16000000 in
theorem nOpen_bad {w:World} {L:DgL} {n1 n2 n3 n4:Nat} {rt le:Int} {v:Value} (hv:v=lsZ ∨ v=lsV L n1 n2 n3 n4 rt) (hle:le ≠ 0) (OL:Hid (∀ W,Ext w W → Calls Tryz.prog 179 #[dgV L n1 n2 n3 n4 rt] W fun e w'=>e = .returned (.tuple #[v,.int .i64 le]) ∧ Ext W w')) :
    Calls Tryz.prog 156 #[dgV L n1 n2 n3 n4 rt] w fun e w'=>e = .returned (.tuple #[v,.int .i64 le]) ∧ Ext w w':=by
  have t0:(le == 0)=false:=by simpa using hle
  have mixed:Tryz.prog.follows .mixedOrders=true:=by kernel_rfl
  clear hle;unfold dgV DgL.cells at *
  rcases hv with rfl | rfl
  · unfold lsZ at *;go_enter Tryz.func156,Tryz.ntmps156;go_upto_region 2 with (go_at_call 179;refine (OL.out _ (exx)).mono ?_;rintro e w1 ⟨rfl,hb1⟩;have hz1:w.heap.size+1 < w1.heap.size:=(by have h:=hb1.le;(try simp at h);omega);have hc1:=hb1.cell (b:=w.heap.size+1) (by simp);have hf1:=hb1.frozen (b:=w.heap.size+1) (by simp);have hc0:=hb1.cell (b:=w.heap.size) (by first | (simp;done) | (simp;omega)))
    have O1:Own7 w1 (w.heap.size+1) (.slice none 0 0) (.slice none 0 0) (.slice none 0 0) (.slice none 0 0) (.slice none 0 0) (.slice none 0 0) (.int .i64 0):=⟨by rw [hc1];go_simp,by rw [hc1];go_simp,by rw [hc1];go_simp,by rw [hc1];go_simp,by rw [hc1];go_simp,by rw [hc1];go_simp,by rw [hc1];go_simp,fun o=>by rw [hf1];go_simp⟩
    refine cut_world (F:=fun W=>Hid (Ext w W) ∧ Hid (Own7 W (w.heap.size+1) (.slice none 0 0) (.slice none 0 0) (.slice none 0 0) (.slice none 0 0) (.slice none 0 0) (.slice none 0 0) (.int .i64 0)) ∧ W.cell? ⟨w.heap.size,0,none⟩=some (.slice L.ps n1 L.cs) ∧ W.cell? ⟨w.heap.size,1,none⟩=some (.slice L.po n2 L.co) ∧ W.cell? ⟨w.heap.size,2,none⟩=some (.slice L.pe n3 L.ce) ∧ W.cell? ⟨w.heap.size,3,none⟩=some (.slice L.pn n4 L.cn) ∧ W.cell? ⟨w.heap.size,4,none⟩=some (.int .i64 rt)) ⟨Lib.hid (exx),Lib.hid (O1.set (d0:=.slice none 0 0) (d1:=.slice none 0 0) (d2:=.slice none 0 0) (d3:=.slice none 0 0) (d4:=.slice none 0 0) (d5:=.slice none 0 0) (d6:=.int .i64 0)), ?x0, ?x1, ?x2, ?x3, ?x4⟩ ?_
    case x0=>have:=hc0 0;go_simp
    case x1=>have:=hc0 1;go_simp
    case x2=>have:=hc0 2;go_simp
    case x3=>have:=hc0 3;go_simp
    case x4=>have:=hc0 4;go_simp
    intro w2 ⟨E2,O2,d0,d1,d2,d3,d4⟩;have GL:=Lib.hid (show w.heap.size ≤ w.heap.size+1 from by omega);have zd:=cell_lt d0;clear O1 hb1 hc1 hf1 hc0 hz1 OL;generalize w.heap.size+1=gl at O2 GL ⊢;generalize w.heap.size=gd at d0 d1 d2 d3 d4 zd ⊢;refine wp_region_seq (S:=fun W=>Ext w2 W) (R:=Ext) (by kernel_rfl) Ext.refl ?_ ?_
    · exact exx
    refine' tkL 0 rfl ?h0_1566 ?_
    case h0_1566=>(intro w _;go_simp;try with_reducible rfl)
    refine layy ?_;refine' tkL 1 rfl ?h1_1567 ?_
    case h1_1567=>(intro w _;go_simp;try with_reducible rfl)
    refine layy ?_;refine' tkL 2 rfl ?h2_1568 ?_
    case h2_1568=>(intro w _;go_simp;try with_reducible rfl)
    refine layy ?_;refine' tkR 3 (v:=undef) rfl (Or.inl (Or.inr ⟨by rfl,rfl⟩)) ?rest3_1569;refine layy ?_;refine' tkR 4 (v:=undef) rfl (Or.inl (Or.inr ⟨by rfl,rfl⟩)) ?rest4_1570;refine layy ?_;refine' tkR 5 (v:=undef) rfl (Or.inl (Or.inr ⟨by rfl,rfl⟩)) ?rest5_1571;refine layy ?_;refine' tkR 6 (v:=undef) rfl (Or.inl (Or.inr ⟨by rfl,rfl⟩)) ?rest6_1572;refine layy ?_;refine' tkR 7 (v:=undef) rfl (Or.inl (Or.inr ⟨by rfl,rfl⟩)) ?rest7_1573;refine layy ?_;refine' tkL 8 rfl ?h8_1574 ?_
    case h8_1574=>(intro w _;go_simp;try with_reducible rfl)
    refine layy ?_;refine wpAnyR_done (by kernel_rfl) ?_ _;intro x3 _ Ex3;have E3:=Lib.hid (E2.out.trans Ex3);have O3:=Lib.hid (O2.out.ext Ex3);clear Ex3 d0 d1 d2 d3 d4 zd;go_upto_region 4 with fail
    have OF:=Lib.hid (Own7.set (d0:=.slice none 0 0) (d1:=.slice none 0 0) (d2:=.slice none 0 0) (d3:=.slice none 0 0) (d4:=.slice none 0 0) (d5:=.slice none 0 0) (d6:=.int .i64 0) O3.out);have KF:=Lib.hid ((Own7.setBut (W:=x3) (g:=gl) (d0:=.slice none 0 0) (d1:=.slice none 0 0) (d2:=.slice none 0 0) (d3:=.slice none 0 0) (d4:=.slice none 0 0) (d5:=.slice none 0 0) (d6:=.int .i64 0)).toExt E3.out (fun b hb=>by rw [List.mem_singleton.1 hb];exact GL.out));obtain ⟨l0,l1,l2,l3,l4,l5,l6,lz⟩:=O3.out
    go_wp2_with fail
    clear l0 l1 l2 l3 l4 l5 l6 lz;obtain ⟨l0,l1,l2,l3,l4,l5,l6,lz⟩:=OF.out;refine bodyPost_ret (v:=.tuple #[.agg #[.slice none 0 0,.slice none 0 0,.slice none 0 0,.slice none 0 0,.slice none 0 0,.slice none 0 0,.int .i64 0],.int .i64 le]) (by simp [results,Tryz.results156,go_sem, *]) rfl ?_;exact ⟨rfl,KF.out⟩
  · unfold lsV at *;go_enter Tryz.func156,Tryz.ntmps156;go_upto_region 2 with (go_at_call 179;refine (OL.out _ (exx)).mono ?_;rintro e w1 ⟨rfl,hb1⟩;have hz1:w.heap.size+1 < w1.heap.size:=(by have h:=hb1.le;(try simp at h);omega);have hc1:=hb1.cell (b:=w.heap.size+1) (by simp);have hf1:=hb1.frozen (b:=w.heap.size+1) (by simp);have hc0:=hb1.cell (b:=w.heap.size) (by first | (simp;done) | (simp;omega)))
    have O1:Own7 w1 (w.heap.size+1) (.slice none 0 0) (.slice none 0 0) (.slice none 0 0) (.slice none 0 0) (.slice none 0 0) (.slice none 0 0) (.int .i64 0):=⟨by rw [hc1];go_simp,by rw [hc1];go_simp,by rw [hc1];go_simp,by rw [hc1];go_simp,by rw [hc1];go_simp,by rw [hc1];go_simp,by rw [hc1];go_simp,fun o=>by rw [hf1];go_simp⟩
    refine cut_world (F:=fun W=>Hid (Ext w W) ∧ Hid (Own7 W (w.heap.size+1) (.slice L.ps n1 L.cs) (.slice L.po n2 L.co) (.slice L.ps n1 L.cs) (.slice L.po n2 L.co) (.slice L.pe n3 L.ce) (.slice L.pn n4 L.cn) (.int .i64 rt)) ∧ W.cell? ⟨w.heap.size,0,none⟩=some (.slice L.ps n1 L.cs) ∧ W.cell? ⟨w.heap.size,1,none⟩=some (.slice L.po n2 L.co) ∧ W.cell? ⟨w.heap.size,2,none⟩=some (.slice L.pe n3 L.ce) ∧ W.cell? ⟨w.heap.size,3,none⟩=some (.slice L.pn n4 L.cn) ∧ W.cell? ⟨w.heap.size,4,none⟩=some (.int .i64 rt)) ⟨Lib.hid (exx),Lib.hid (O1.set (d0:=.slice L.ps n1 L.cs) (d1:=.slice L.po n2 L.co) (d2:=.slice L.ps n1 L.cs) (d3:=.slice L.po n2 L.co) (d4:=.slice L.pe n3 L.ce) (d5:=.slice L.pn n4 L.cn) (d6:=.int .i64 rt)), ?x0, ?x1, ?x2, ?x3, ?x4⟩ ?_
    case x0=>have:=hc0 0;go_simp
    case x1=>have:=hc0 1;go_simp
    case x2=>have:=hc0 2;go_simp
    case x3=>have:=hc0 3;go_simp
    case x4=>have:=hc0 4;go_simp
    intro w2 ⟨E2,O2,d0,d1,d2,d3,d4⟩;have GL:=Lib.hid (show w.heap.size ≤ w.heap.size+1 from by omega);have zd:=cell_lt d0;clear O1 hb1 hc1 hf1 hc0 hz1 OL;generalize w.heap.size+1=gl at O2 GL ⊢;generalize w.heap.size=gd at d0 d1 d2 d3 d4 zd ⊢;refine wp_region_seq (S:=fun W=>Ext w2 W) (R:=Ext) (by kernel_rfl) Ext.refl ?_ ?_
    · exact exx
    refine' tkL 0 rfl ?h0_1575 ?_
    case h0_1575=>(intro w _;go_simp;try with_reducible rfl)
    refine layy ?_;refine' tkL 1 rfl ?h1_1576 ?_
    case h1_1576=>(intro w _;go_simp;try with_reducible rfl)
    refine layy ?_;refine' tkL 2 rfl ?h2_1577 ?_
    case h2_1577=>(intro w _;go_simp;try with_reducible rfl)
    refine layy ?_;refine' tkR 3 (v:=undef) rfl (Or.inl (Or.inr ⟨by rfl,rfl⟩)) ?rest3_1578;refine layy ?_;refine' tkR 4 (v:=undef) rfl (Or.inl (Or.inr ⟨by rfl,rfl⟩)) ?rest4_1579;refine layy ?_;refine' tkR 5 (v:=undef) rfl (Or.inl (Or.inr ⟨by rfl,rfl⟩)) ?rest5_1580;refine layy ?_;refine' tkR 6 (v:=undef) rfl (Or.inl (Or.inr ⟨by rfl,rfl⟩)) ?rest6_1581;refine layy ?_;refine' tkR 7 (v:=undef) rfl (Or.inl (Or.inr ⟨by rfl,rfl⟩)) ?rest7_1582;refine layy ?_;refine' tkL 8 rfl ?h8_1583 ?_
    case h8_1583=>(intro w _;go_simp;try with_reducible rfl)
    refine layy ?_;refine wpAnyR_done (by kernel_rfl) ?_ _;intro x3 _ Ex3;have E3:=Lib.hid (E2.out.trans Ex3);have O3:=Lib.hid (O2.out.ext Ex3);clear Ex3 d0 d1 d2 d3 d4 zd;go_upto_region 4 with fail
    have OF:=Lib.hid (Own7.set (d0:=.slice L.ps n1 L.cs) (d1:=.slice L.po n2 L.co) (d2:=.slice L.ps n1 L.cs) (d3:=.slice L.po n2 L.co) (d4:=.slice L.pe n3 L.ce) (d5:=.slice L.pn n4 L.cn) (d6:=.int .i64 rt) O3.out);have KF:=Lib.hid ((Own7.setBut (W:=x3) (g:=gl) (d0:=.slice L.ps n1 L.cs) (d1:=.slice L.po n2 L.co) (d2:=.slice L.ps n1 L.cs) (d3:=.slice L.po n2 L.co) (d4:=.slice L.pe n3 L.ce) (d5:=.slice L.pn n4 L.cn) (d6:=.int .i64 rt)).toExt E3.out (fun b hb=>by rw [List.mem_singleton.1 hb];exact GL.out));obtain ⟨l0,l1,l2,l3,l4,l5,l6,lz⟩:=O3.out
    go_wp2_with fail
    clear l0 l1 l2 l3 l4 l5 l6 lz;obtain ⟨l0,l1,l2,l3,l4,l5,l6,lz⟩:=OF.out;refine bodyPost_ret (v:=.tuple #[.agg #[.slice L.ps n1 L.cs,.slice L.po n2 L.co,.slice L.ps n1 L.cs,.slice L.po n2 L.co,.slice L.pe n3 L.ce,.slice L.pn n4 L.cn,.int .i64 rt],.int .i64 le]) (by simp [results,Tryz.results156,go_sem, *]) rfl ?_;exact ⟨rfl,KF.out⟩
set_option maxRecDepth 100000 in
set_option maxHeartbeats 16000000 in
theorem nOpen_ok {w:World} {L:DgL} {n1 n2 n3 n4:Nat} {rt:Int} {b:Bool} {R:Value → World → Prop} (OL:Hid (∀ W,Ext w W → Calls Tryz.prog 179 #[dgV L n1 n2 n3 n4 rt] W fun e w'=>e = .returned (.tuple #[lsV L n1 n2 n3 n4 rt,.int .i64 0]) ∧ Ext W w')) (CL:Hid (∀ W,Ext w W → Calls Tryz.prog 181 #[lsV L n1 n2 n3 n4 rt] W fun e w'=>∃ v,e = .returned v ∧ Ext W w' ∧ R v w')) (hR:Hid (∀ v W W',R v W → Ext W W' → R v W'))
    (EQ:Hid (∀ v W,Ext w W → R v W → Calls Tryz.prog 180 #[v,dgV L n1 n2 n3 n4 rt] W fun e w'=>e = .returned (.bool b) ∧ Ext W w')) :
    Calls Tryz.prog 156 #[dgV L n1 n2 n3 n4 rt] w fun e w'=>e = .returned (.tuple #[lsV L n1 n2 n3 n4 rt,.int .i64 (if b=true then 0 else 4)]) ∧ Ext w w':=by
  have mixed:Tryz.prog.follows .mixedOrders=true:=by kernel_rfl
  unfold dgV DgL.cells lsV at *;go_enter Tryz.func156,Tryz.ntmps156;go_upto_region 2 with (go_at_call 179;refine (OL.out _ (exx)).mono ?_;rintro e w1 ⟨rfl,hb1⟩;have hz1:w.heap.size+1 < w1.heap.size:=(by have h:=hb1.le;(try simp at h);omega);have hc1:=hb1.cell (b:=w.heap.size+1) (by simp);have hf1:=hb1.frozen (b:=w.heap.size+1) (by simp);have hc0:=hb1.cell (b:=w.heap.size) (by first | (simp;done) | (simp;omega)))
  have O1:Own7 w1 (w.heap.size+1) (.slice none 0 0) (.slice none 0 0) (.slice none 0 0) (.slice none 0 0) (.slice none 0 0) (.slice none 0 0) (.int .i64 0):=⟨by rw [hc1];go_simp,by rw [hc1];go_simp,by rw [hc1];go_simp,by rw [hc1];go_simp,by rw [hc1];go_simp,by rw [hc1];go_simp,by rw [hc1];go_simp,fun o=>by rw [hf1];go_simp⟩
  refine cut_world (F:=fun W=>Hid (Ext w W) ∧ Hid (Own7 W (w.heap.size+1) (.slice L.ps n1 L.cs) (.slice L.po n2 L.co) (.slice L.ps n1 L.cs) (.slice L.po n2 L.co) (.slice L.pe n3 L.ce) (.slice L.pn n4 L.cn) (.int .i64 rt)) ∧ W.cell? ⟨w.heap.size,0,none⟩=some (.slice L.ps n1 L.cs) ∧ W.cell? ⟨w.heap.size,1,none⟩=some (.slice L.po n2 L.co) ∧ W.cell? ⟨w.heap.size,2,none⟩=some (.slice L.pe n3 L.ce) ∧ W.cell? ⟨w.heap.size,3,none⟩=some (.slice L.pn n4 L.cn) ∧ W.cell? ⟨w.heap.size,4,none⟩=some (.int .i64 rt)) ⟨Lib.hid (exx),Lib.hid (O1.set (d0:=.slice L.ps n1 L.cs) (d1:=.slice L.po n2 L.co) (d2:=.slice L.ps n1 L.cs) (d3:=.slice L.po n2 L.co) (d4:=.slice L.pe n3 L.ce) (d5:=.slice L.pn n4 L.cn) (d6:=.int .i64 rt)), ?x0, ?x1, ?x2, ?x3, ?x4⟩ ?_
  case x0=>have:=hc0 0;go_simp
  case x1=>have:=hc0 1;go_simp
  case x2=>have:=hc0 2;go_simp
  case x3=>have:=hc0 3;go_simp
  case x4=>have:=hc0 4;go_simp
  intro w2 ⟨E2,O2,d0,d1,d2,d3,d4⟩;have GL:=Lib.hid (show w.heap.size ≤ w.heap.size+1 from by omega);have zd:=cell_lt d0;clear O1 hb1 hc1 hf1 hc0 hz1 OL;generalize w.heap.size+1=gl at O2 GL ⊢;generalize w.heap.size=gd at d0 d1 d2 d3 d4 zd ⊢
  · skip
    refine wp_region_seq (S:=fun W=>Ext w2 W) (R:=Ext) (by kernel_rfl) Ext.refl ?_ ?_
    · exact exx
    refine' tkL 0 rfl ?h0_1584 ?_
    case h0_1584=>(intro w hSw;(obtain ⟨l0,l1,l2,l3,l4,l5,l6,lz⟩:=O2.out.ext hSw;have d0':=(hSw.cell zd 0).trans d0;have d1':=(hSw.cell zd 1).trans d1;have d2':=(hSw.cell zd 2).trans d2;have d3':=(hSw.cell zd 3).trans d3;have d4':=(hSw.cell zd 4).trans d4);go_simp;try with_reducible rfl)
    refine layy ?_;refine' tkL 1 rfl ?h1_1585 ?_
    case h1_1585=>(intro w hSw;(obtain ⟨l0,l1,l2,l3,l4,l5,l6,lz⟩:=O2.out.ext hSw;have d0':=(hSw.cell zd 0).trans d0;have d1':=(hSw.cell zd 1).trans d1;have d2':=(hSw.cell zd 2).trans d2;have d3':=(hSw.cell zd 3).trans d3;have d4':=(hSw.cell zd 4).trans d4);go_simp;try with_reducible rfl)
    refine layy ?_;refine' tkL 2 rfl ?h2_1586 ?_
    case h2_1586=>(intro w hSw;(obtain ⟨l0,l1,l2,l3,l4,l5,l6,lz⟩:=O2.out.ext hSw;have d0':=(hSw.cell zd 0).trans d0;have d1':=(hSw.cell zd 1).trans d1;have d2':=(hSw.cell zd 2).trans d2;have d3':=(hSw.cell zd 3).trans d3;have d4':=(hSw.cell zd 4).trans d4);go_simp;try with_reducible rfl)
    refine layy ?_;refine' tkL 3 rfl ?h3_1587 ?_
    case h3_1587=>(intro w hSw;(obtain ⟨l0,l1,l2,l3,l4,l5,l6,lz⟩:=O2.out.ext hSw;have d0':=(hSw.cell zd 0).trans d0;have d1':=(hSw.cell zd 1).trans d1;have d2':=(hSw.cell zd 2).trans d2;have d3':=(hSw.cell zd 3).trans d3;have d4':=(hSw.cell zd 4).trans d4);go_simp;try with_reducible rfl)
    refine layy ?_;refine' tkL 5 rfl ?h5_1588 ?_
    case h5_1588=>(intro w hSw;(obtain ⟨l0,l1,l2,l3,l4,l5,l6,lz⟩:=O2.out.ext hSw;have d0':=(hSw.cell zd 0).trans d0;have d1':=(hSw.cell zd 1).trans d1;have d2':=(hSw.cell zd 2).trans d2;have d3':=(hSw.cell zd 3).trans d3;have d4':=(hSw.cell zd 4).trans d4);go_simp;try with_reducible rfl)
    refine layy ?_;refine wpAnyR_do1 4 (fun u w''=>Ext w2 w'' ∧ R u w'') rfl (by kernel_rfl) (by rfl) ?run4 ?vs4 ?next4
    case run4=>
     intro w' hE hS;refine .inl ⟨181,#[.agg #[.slice L.ps n1 L.cs,.slice L.po n2 L.co,.slice L.ps n1 L.cs,.slice L.po n2 L.co,.slice L.pe n3 L.ce,.slice L.pn n4 L.cn,.int .i64 rt]],by go_simp,(CL.out _ (E2.out.trans (((Ext.drew (Ext.refl w2)).trans hE)))).mono ?_⟩;rintro e w'' ⟨v,rfl,hE',hr⟩;exact ⟨_,rfl,((Ext.drew (Ext.refl w2)).trans hE).trans hE',hr⟩
    case vs4=>
     rintro u w'' ⟨hE,_⟩ W hW;exact hE.trans hW
    case next4=>
    rintro u w3 ⟨hE3,hr3⟩;have HR3:=Lib.hid hr3;have E3:=Lib.hid (E2.out.trans hE3);have O3:=Lib.hid (O2.out.ext hE3);clear hr3 hE3 d0 d1 d2 d3 d4 zd;refine layy ?_;refine' tkR 6 (v:=.bool b) rfl (Or.inr ⟨by rfl,180,_, ?hx6_1589, ?hy6_1589⟩) ?rest6_1589
    case hx6_1589=>(intro w hSw;go_simp;try with_reducible rfl)
    case hy6_1589=>exact fun w hE=>(EQ.out u _ (E3.out.trans hE) (hR.out _ _ _ HR3.out hE)).mono (fun _ _ h=>⟨h.1,h.2,Ext.trans hE h.2⟩)
    refine layy ?_;refine' tkL 7 rfl ?h7_1590 ?_
    case h7_1590=>(intro w _;go_simp;try with_reducible rfl)
    refine layy ?_;refine' tkL 8 rfl ?h8_1591 ?_
    case h8_1591=>(intro w _;go_simp;try with_reducible rfl)
    refine layy ?_;refine wpAnyR_done (by kernel_rfl) ?_ _;intro x5 _ Ex5;have E5:=Lib.hid (E3.out.trans Ex5);have O5:=Lib.hid (O3.out.ext Ex5);clear Ex5
    cases b with
    | true=>
     go_upto_region 4 with fail
     have OF:=Lib.hid (Own7.set (d0:=.slice L.ps n1 L.cs) (d1:=.slice L.po n2 L.co) (d2:=.slice L.ps n1 L.cs) (d3:=.slice L.po n2 L.co) (d4:=.slice L.pe n3 L.ce) (d5:=.slice L.pn n4 L.cn) (d6:=.int .i64 rt) O5.out);have KF:=Lib.hid ((Own7.setBut (W:=x5) (g:=gl) (d0:=.slice L.ps n1 L.cs) (d1:=.slice L.po n2 L.co) (d2:=.slice L.ps n1 L.cs) (d3:=.slice L.po n2 L.co) (d4:=.slice L.pe n3 L.ce) (d5:=.slice L.pn n4 L.cn) (d6:=.int .i64 rt)).toExt E5.out (fun b hb=>by rw [List.mem_singleton.1 hb];exact GL.out));obtain ⟨l0,l1,l2,l3,l4,l5,l6,lz⟩:=O5.out
     go_wp2_with fail
     clear l0 l1 l2 l3 l4 l5 l6 lz;obtain ⟨l0,l1,l2,l3,l4,l5,l6,lz⟩:=OF.out;refine bodyPost_ret (v:=.tuple #[.agg #[.slice L.ps n1 L.cs,.slice L.po n2 L.co,.slice L.ps n1 L.cs,.slice L.po n2 L.co,.slice L.pe n3 L.ce,.slice L.pn n4 L.cn,.int .i64 rt],.int .i64 0]) (by simp [results,Tryz.results156,go_sem, *]) rfl ?_;exact ⟨rfl,KF.out⟩
    | false=>
     go_upto_region 3 with fail
     have OF:=Lib.hid (Own7.set (d0:=.slice L.ps n1 L.cs) (d1:=.slice L.po n2 L.co) (d2:=.slice L.ps n1 L.cs) (d3:=.slice L.po n2 L.co) (d4:=.slice L.pe n3 L.ce) (d5:=.slice L.pn n4 L.cn) (d6:=.int .i64 rt) O5.out);have KF:=Lib.hid ((Own7.setBut (W:=x5) (g:=gl) (d0:=.slice L.ps n1 L.cs) (d1:=.slice L.po n2 L.co) (d2:=.slice L.ps n1 L.cs) (d3:=.slice L.po n2 L.co) (d4:=.slice L.pe n3 L.ce) (d5:=.slice L.pn n4 L.cn) (d6:=.int .i64 rt)).toExt E5.out (fun b hb=>by rw [List.mem_singleton.1 hb];exact GL.out));obtain ⟨l0,l1,l2,l3,l4,l5,l6,lz⟩:=O5.out
     go_wp2_with fail
     clear l0 l1 l2 l3 l4 l5 l6 lz;obtain ⟨l0,l1,l2,l3,l4,l5,l6,lz⟩:=OF.out;refine bodyPost_ret (v:=.tuple #[.agg #[.slice L.ps n1 L.cs,.slice L.po n2 L.co,.slice L.ps n1 L.cs,.slice L.po n2 L.co,.slice L.pe n3 L.ce,.slice L.pn n4 L.cn,.int .i64 rt],.int .i64 4]) (by simp [results,Tryz.results156,go_sem, *]) rfl ?_;exact ⟨rfl,KF.out⟩
def opV (L:DgL) (d:Nd.Dia):Value:=if Hp.frameErr d.sizes d.order=0 then lsV L d.sizes.length d.order.length d.ends.length d.nodes.length d.root else lsZ
theorem opV_or (L:DgL) (d:Nd.Dia):opV L d=lsZ ∨ opV L d=lsV L d.sizes.length d.order.length d.ends.length d.nodes.length d.root:=by
 unfold opV
 split
 · exact .inr rfl
 · exact .inl rfl
theorem looseE_ok {d:Nd.Dia} (h:looseE d=0):Hp.frameErr d.sizes d.order=0 ∧ looseB d=true:=by
 unfold looseE at h
 split at h
 · rename_i h1;exact absurd h h1
 · rename_i h1
   split at h
   · rename_i h2;exact ⟨by omega,h2⟩
   · omega
theorem opV_ok {L:DgL} {d:Nd.Dia} (h:looseE d=0):opV L d=lsV L d.sizes.length d.order.length d.ends.length d.nodes.length d.root:=by
 unfold opV
 rw [if_pos (looseE_ok h).1]
theorem ClRes {w w':World} {d:Nd.Dia} {e:Ending} (h:ClPost w d e w'):∃ v,e = .returned v ∧ Ext w w' ∧ ∃ M:DgL,v=dgV M d.sizes.length d.order.length d.clean.2.ends.length d.clean.2.nodes.length d.clean.1 ∧ DgRd w' M d.sizes d.order d.clean.2.ends d.clean.2.nodes:=by
 obtain ⟨M,rfl,h1,h2,_⟩:=h
 exact ⟨_,rfl,h2,M,rfl,h1⟩
theorem nOpen {w:World} {L:DgL} {d:Nd.Dia} (h:DgRd w L d.sizes d.order d.ends d.nodes) (hN:DgNumN d L) :
    Calls Tryz.prog 156 #[dgV L d.sizes.length d.order.length d.ends.length d.nodes.length d.root] w fun e w'=>e = .returned (.tuple #[opV L d,.int .i64 (checkE d)]) ∧ Ext w w':=by
  by_cases hle:looseE d=0
  case neg=>
   have e:checkE d=looseE d:=by unfold checkE;rw [if_pos hle]
   rw [e];exact nOpen_bad (opV_or L d) hle (Lib.hid fun W hE=>nOpenLoose (h.ext hE) hN rfl)
  case pos=>
   obtain ⟨hf,hlb⟩:=looseE_ok hle;have fr:=(Hp.frameErr_ok hf).1;have hin:=looseB_in fr hlb hN;obtain ⟨hlow,hroot⟩:=looseB_low hlb;have few:=fr.toFr.few;have len:=fr.len;rw [opV_ok hle];have e:checkE d=if (decide (d.clean.2.ends=d.ends) && (decide (d.clean.2.nodes=d.nodes) && (d.clean.1 == d.root)))=true then 0 else 4:=by
    unfold checkE;rw [if_neg (by omega)];have:=Nd.clean_iff hlow hroot
    by_cases hi:d.Is
    · obtain ⟨h1,h2,h3⟩:=this.2 hi;rw [if_pos hi,if_pos (by simp [h1,h2,h3])]
    · rw [if_neg hi,if_neg];intro hb;simp only [Bool.and_eq_true,decide_eq_true_eq,beq_iff_eq] at hb;exact hi (this.1 ⟨hb.2.2,hb.1,hb.2.1⟩)
   rw [e];refine nOpen_ok (R:=fun v W=>∃ M:DgL,v=dgV M d.sizes.length d.order.length d.clean.2.ends.length d.clean.2.nodes.length d.clean.1 ∧ DgRd W M d.sizes d.order d.clean.2.ends d.clean.2.nodes) (Lib.hid fun W hE=>?_) (Lib.hid fun W hE=>?_) (Lib.hid fun v W W' hr hE=>?_) (Lib.hid fun v W hE hr=>?_)
   · have:=nOpenLoose (v:=lsV L d.sizes.length d.order.length d.ends.length d.nodes.length d.root) (h.ext hE) hN (opV_ok hle);rw [hle] at this;exact this
   · exact (nClean (h.ext hE) hin hroot (by omega) (by omega)).mono fun e w' hp=>ClRes hp
   · obtain ⟨M,e,hM⟩:=hr;exact ⟨M,e,hM.ext hE⟩
   · obtain ⟨M,rfl,hM⟩:=hr;have:=nEqual (d:=⟨d.sizes,d.order,d.clean.2.ends,d.clean.2.nodes,d.clean.1⟩) (e:=d) (q1:=true) (q2:=true) hM (h.ext hE) (by simp) (by simp) rfl rfl
     simpa using this
theorem nCheck {w:World} {L:DgL} {d:Nd.Dia} (h:DgRd w L d.sizes d.order d.ends d.nodes) (hN:DgNumN d L) :
    Calls Tryz.prog 100 #[dgV L d.sizes.length d.order.length d.ends.length d.nodes.length d.root] w fun e w'=>e = .returned (.int .i64 (checkE d)) ∧ Ext w w':=by
  have OP:=Lib.hid (fun W (hE:Ext w W)=>nOpen (h.ext hE) hN);have hv:=opV_or L d;clear h hN;generalize opV L d=v at *;generalize checkE d=r at *;generalize d.sizes.length=n1 at *;generalize d.order.length=n2 at *;generalize d.ends.length=n3 at *;generalize d.nodes.length=n4 at *;generalize d.root=rt at *;unfold dgV DgL.cells at *
  rcases hv with rfl | rfl
  · unfold lsZ at *;go_enter Tryz.func100,Tryz.ntmps100
    go_wp2_with (go_at_call 156;refine (OP.out _ (exx)).mono ?_;rintro e w1 ⟨rfl,hb1⟩;obtain ⟨hc1,hf1,hs1⟩:=hb1.cells)
    go_returns;exact ⟨rfl,exx⟩
  · unfold lsV at *;go_enter Tryz.func100,Tryz.ntmps100
    go_wp2_with (go_at_call 156;refine (OP.out _ (exx)).mono ?_;rintro e w1 ⟨rfl,hb1⟩;obtain ⟨hc1,hf1,hs1⟩:=hb1.cells)
    go_returns;exact ⟨rfl,exx⟩
open Go.RowKit
namespace Nm
def none':Hp.Hs:=⟨[],[],[],[]⟩
theorem m1:Aw.S3.make 0 [27,27]=some (27,0,Aw.S3):=by kernel_rfl
theorem m3:Aw.S4.find 0 [17,27]=some (33,0):=by kernel_rfl
def L4:List (Nat × Nat):=(Aw.S4.piecesFrom Aw.S4.fuel 17).getD []
theorem l4:Aw.S4.live=some []:=by kernel_rfl
theorem p4:Aw.S4.piecesFrom Aw.S4.fuel 17=some L4:=by kernel_rfl
theorem g4:Aw.S4.gapSums L4=(0,0):=by kernel_rfl
theorem t4:Aw.S4.taken.length=4:=by kernel_rfl
def S7:Hp.Hs:=((Aw.S5.drop 27).getD (0,none')).2
theorem d5:Aw.S5.drop 27=some (0,S7):=by kernel_rfl
theorem d7:S7.drop 27=some (9,S7):=by kernel_rfl
theorem d8:S7.drop 18=some (7,S7):=by kernel_rfl
theorem h8:S7.hold 0=some (7,S7):=by kernel_rfl
def S9:Hp.Hs:=(S7.collect.getD (0,none')).2
theorem c9:S7.collect=some (4,S9):=by kernel_rfl
def L9:List (Nat × Nat):=(S9.piecesFrom S9.fuel 17).getD []
theorem l9:S9.live=some []:=by kernel_rfl
theorem p9:S9.piecesFrom S9.fuel 17=some L9:=by kernel_rfl
theorem g9:S9.gapSums L9=(22,22):=by kernel_rfl
theorem t9:S9.taken.length=0:=by kernel_rfl
def K0:Hp.Hs:=(Hp.new [2,2] [0,1] 40).getD none'
def K1:Hp.Hs:=((K0.end' (0:Nat) 5).getD (0,0,none')).2.2
def K2:Hp.Hs:=((K1.end' (0:Nat) 7).getD (0,0,none')).2.2
def K3:Hp.Hs:=((K2.make 1 [17,22]).getD (0,0,none')).2.2
theorem ee:Hp.newErr [2,2] [0,1] (40:Nat)=0:=by kernel_rfl
theorem e0:Hp.new [2,2] [0,1] 40=some K0:=by kernel_rfl
theorem e1:K0.end' (0:Nat) 5=some (17,0,K1):=by kernel_rfl
theorem e2:K1.end' (0:Nat) 7=some (22,0,K2):=by kernel_rfl
theorem e3:K2.make 1 [17,22]=some (27,0,K3):=by kernel_rfl
theorem k1:K3.make 0 [17,27]=some (0,8,K3):=by kernel_rfl
theorem k2:K3.make 1 [27,17]=some (0,2,K3):=by kernel_rfl
theorem k3:K3.make 0 [17]=some (0,4,K3):=by kernel_rfl
theorem k4:K3.make 0 [17,18]=some (0,7,K3):=by kernel_rfl
theorem k5:K3.make 2 [17,22]=some (0,3,K3):=by kernel_rfl
theorem k6:K3.end' (0:Nat) 10000=some (0,4,K3):=by kernel_rfl
theorem k7:K3.find 1 [22,17]=some (0,7):=by kernel_rfl
theorem k8:K3.has 18=false:=by kernel_rfl
def DD:Hp.Dg:=((K3.diagram 27).getD (0,⟨[],[],[]⟩)).2
theorem k9:K3.diagram 27=some (0,DD):=by kernel_rfl
theorem kE:DD.ends=[(0,5),(0,7)]:=by kernel_rfl
theorem kN:DD.nodes=[(1,[-1,-2])]:=by kernel_rfl
theorem ks:K3.sizes=[2,2]:=by kernel_rfl
theorem ko:K3.order=[0,1]:=by kernel_rfl
theorem kt:27 ∈ K3.taken:=by
 have h:K3.taken.contains 27=true:=by kernel_rfl
 simpa using h
def D:Nd.Dia:=⟨[2,2],[0,1],[(0,5),(0,7)],[(1,[-1,-2])],0⟩
def D2:Nd.Dia:=⟨[],[],[(0,0)],[],-1⟩
theorem check_of {d:Nd.Dia} (h1:looseE d=0) (h2:d.clean.1=d.root ∧ d.clean.2.ends=d.ends ∧ d.clean.2.nodes=d.nodes):checkE d=0:=by
 obtain ⟨-,hlb⟩:=looseE_ok h1
 obtain ⟨hlow,hroot⟩:=looseB_low hlb
 unfold checkE
 rw [if_neg (by simpa using h1),if_pos ((Nd.clean_iff hlow hroot).1 h2)]
theorem ch:checkE D=0:=check_of (by kernel_rfl) ⟨by kernel_rfl,by kernel_rfl,by kernel_rfl⟩
theorem ch2:checkE D2=0:=check_of (by kernel_rfl) ⟨by kernel_rfl,by kernel_rfl,by kernel_rfl⟩
theorem pu:Nd.put D K3=some (27,0,K3):=by kernel_rfl
def K5:Hp.Hs:=(K3.compacted.getD ([],none')).2
theorem co:K3.compacted=some ([],K5):=by kernel_rfl
theorem n1:Hp.newErr [2] [0] 31=3:=by kernel_rfl
theorem n2:Hp.newErr [2] [1] 31=4:=by kernel_rfl
theorem n3:Hp.newErr [2] [0] 32=0:=by kernel_rfl
def Z:Hp.Hs:=⟨[2],[0],List.replicate 32 0,[]⟩
theorem zw:Z.walkFrom Z.fuel 17 [] []=some none:=by kernel_rfl
theorem kg:∃ B,Hp.Good K3 B:=by
 obtain ⟨S,h,-,-,-,hw⟩:=Hp.new_wf (Hp.frameErr_ok (z:=[2,2]) (o:=[0,1]) (by kernel_rfl)).1 (n:=40) (by omega) (by omega)
 rw [e0] at h
 cases h
 have g0:Hp.Good K0 0:=⟨_,_,hw⟩
 obtain ⟨r,e,S1,h1,g1,-⟩:=Hp.end_good g0 (fault:=((0:Nat):Int)) (n:=5) (by omega)
 rw [e1] at h1
 cases h1
 obtain ⟨r,e,S1,h1,g2,-⟩:=Hp.end_good g1 (fault:=((0:Nat):Int)) (n:=7) (by omega)
 rw [e2] at h1
 cases h1
 obtain ⟨r,e,S1,h1,g3,-⟩:=Hp.make_good g2 1 [17,22]
 rw [e3] at h1
 cases h1
 exact ⟨0,g3⟩
end Nm
open Go.RowKit Go.Maps
def vb2:Value → List Nat
 | .slice p _ _=>blk p
 | .pointer (some a)=>[a.block]
 | _=>[]
def BoxAt (W:World) (v:Value) (q:Bool) (x:Value):Prop:=∃ (g:Nat) (y:Value),v = .pointer (some ⟨g,0,none⟩) ∧ W.cell? ⟨g,0,none⟩=some y ∧ W.frozen? ⟨g,0,none⟩=false ∧ (q=true → y=x)
def RowAt (W:World) (v:Value) (n:Nat):Prop:=∃ g:Nat,v = .slice (some ⟨g,0,none⟩) n n ∧ WordsAt W g (List.replicate n 0)
theorem BoxAt.but {W W':World} {v x:Value} {q:Bool} (h:BoxAt W v q x) {l:List Nat} (k:But l W W') (hl:∀ b ∈ l,b ∉ vb2 v):BoxAt W' v q x:=by
 obtain ⟨g,y,rfl,h1,h2,h3⟩:=h
 have hg:g ∉ l:=fun hm=>hl g hm (by simp [vb2])
 exact ⟨g,y,rfl,(k.cell (cell_lt h1) hg 0).trans h1,(k.frozen (cell_lt h1) hg 0).trans h2,h3⟩
theorem BoxAt.ext {W W':World} {v x:Value} {q:Bool} (h:BoxAt W v q x) (k:Ext W W'):BoxAt W' v q x:=h.but (l:=[]) (But.ofExt k) (by simp)
theorem RowAt.but {W W':World} {v:Value} {n:Nat} (h:RowAt W v n) {l:List Nat} (k:But l W W') (hl:∀ b ∈ l,b ∉ vb2 v):RowAt W' v n:=by
 obtain ⟨g,rfl,h1⟩:=h
 exact ⟨g,rfl,h1.but k fun hm=>hl g hm (by simp [vb2,blk])⟩
theorem RowAt.ext {W W':World} {v:Value} {n:Nat} (h:RowAt W v n) (k:Ext W W'):RowAt W' v n:=h.but (l:=[]) (But.ofExt k) (by simp)
theorem BoxAt.lt {W:World} {v x:Value} {q:Bool} (h:BoxAt W v q x):∀ b ∈ vb2 v,b < W.heap.size:=fun b hb=>by
 obtain ⟨g,y,rfl,h1,_⟩:=h
 rw [List.mem_singleton.1 hb]
 exact cell_lt h1
theorem RowAt.lt {W:World} {v:Value} {n:Nat} (h:RowAt W v n):∀ b ∈ vb2 v,b < W.heap.size:=fun b hb=>by
 obtain ⟨g,rfl,h1⟩:=h
 have:b=g:=by simpa [vb2,blk] using hb
 rw [this]
 exact h1.lt
structure PtK (w0:World) (n m:Nat) (L:Nat → Bool) (W:World) (v1 v2 v3 v4:Value):Prop where
 ext:Ext w0 W
 a:L 3=true → RowAt W v1 n ∧ ∀ b ∈ vb2 v1,w0.heap.size ≤ b
 b:L 7=true → RowAt W v2 m ∧ ∀ b ∈ vb2 v2,w0.heap.size ≤ b
 c:L 8=true → BoxAt W v3 (L 10) v1 ∧ ∀ b ∈ vb2 v3,w0.heap.size ≤ b
 d:L 9=true → BoxAt W v4 (L 11) v2 ∧ ∀ b ∈ vb2 v4,w0.heap.size ≤ b
 ab:L 3=true → L 7=true → ∀ b ∈ vb2 v1,b ∉ vb2 v2
 ac:L 3=true → L 8=true → ∀ b ∈ vb2 v1,b ∉ vb2 v3
 ad:L 3=true → L 9=true → ∀ b ∈ vb2 v1,b ∉ vb2 v4
 bc:L 7=true → L 8=true → ∀ b ∈ vb2 v2,b ∉ vb2 v3
 bd:L 7=true → L 9=true → ∀ b ∈ vb2 v2,b ∉ vb2 v4
 cd:L 8=true → L 9=true → ∀ b ∈ vb2 v3,b ∉ vb2 v4
 p:L 10=true → L 3=true ∧ L 8=true
 q:L 11=true → L 7=true ∧ L 9=true
namespace PtK
variable {w0 W W':World} {n m g:Nat} {L:Nat → Bool} {v1 v2 v3 v4 v:Value}
theorem no {p:Prop} {a:Bool} (h0:a=false) (h:a=true):p:=by rw [h0] at h;cases h
theorem a' (k:PtK w0 n m L W v1 v2 v3 v4) (y:Ext W W') (h:L 3=true):RowAt W' v1 n ∧ ∀ b ∈ vb2 v1,w0.heap.size ≤ b:=⟨(k.a h).1.ext y,(k.a h).2⟩
theorem b' (k:PtK w0 n m L W v1 v2 v3 v4) (y:Ext W W') (h:L 7=true):RowAt W' v2 m ∧ ∀ b ∈ vb2 v2,w0.heap.size ≤ b:=⟨(k.b h).1.ext y,(k.b h).2⟩
theorem c' (k:PtK w0 n m L W v1 v2 v3 v4) (y:Ext W W') (h:L 8=true):BoxAt W' v3 (L 10) v1 ∧ ∀ b ∈ vb2 v3,w0.heap.size ≤ b:=⟨(k.c h).1.ext y,(k.c h).2⟩
theorem d' (k:PtK w0 n m L W v1 v2 v3 v4) (y:Ext W W') (h:L 9=true):BoxAt W' v4 (L 11) v2 ∧ ∀ b ∈ vb2 v4,w0.heap.size ≤ b:=⟨(k.d h).1.ext y,(k.d h).2⟩
theorem old {o:Value} (h:∀ b ∈ vb2 o,b < W.heap.size) (hv:vb2 v=[W.heap.size]):∀ b ∈ vb2 o,b ∉ vb2 v:=fun b hb hm=>by
 have:=h b hb
 rw [hv] at hm
 rw [List.mem_singleton.1 hm] at this
 omega
theorem new {o:Value} (h:∀ b ∈ vb2 o,b < W.heap.size) (hv:vb2 v=[W.heap.size]):∀ b ∈ vb2 v,b ∉ vb2 o:=fun b hm hb=>by
 have:=h b hb
 rw [hv] at hm
 rw [List.mem_singleton.1 hm] at this
 omega
theorem lo (k:PtK w0 n m L W v1 v2 v3 v4) (hv:vb2 v=[W.heap.size]):∀ b ∈ vb2 v,w0.heap.size ≤ b:=fun b hb=>by
 rw [hv] at hb
 rw [List.mem_singleton.1 hb]
 exact k.ext.le
theorem row (W:World) (n:Nat):RowAt (W.alloc (.cells (madeCells #[.int .i64 0] n) 3)) (.slice (some ⟨W.heap.size,0,none⟩) n n) n:=⟨W.heap.size,rfl,made_words W n⟩
theorem box (W:World) (q:Bool) (x:Value) (t:TypeId) (hq:q=false):BoxAt (W.alloc (.cells #[.slice none 0 0] t)) (.pointer (some ⟨W.heap.size,0,none⟩)) q x:=
 ⟨W.heap.size,.slice none 0 0,rfl,by go_simp,by go_simp,fun h=>no hq h⟩
theorem step3 (k:PtK w0 n m L W v1 v2 v3 v4) (hL:L 3=false):PtK w0 n m (also L 3) (W.alloc (.cells (madeCells #[.int .i64 0] n) 3)) (.slice (some ⟨W.heap.size,0,none⟩) n n) v2 v3 v4:=by
 have y:Ext W (W.alloc (.cells (madeCells #[.int .i64 0] n) 3)):=Ext.alloc (Ext.refl W) _
 have hv:vb2 (.slice (some ⟨W.heap.size,0,none⟩) n n)=[W.heap.size]:=rfl
 have h10:L 10=false:=by
  cases e:L 10 with
  | false=>rfl
  | true=>exact no hL (k.p e).1
 exact ⟨k.ext.trans y,fun _=>⟨row W n,k.lo hv⟩,k.b' y,fun h=>by
  have:=k.c' y h;obtain ⟨⟨g,x,e1,e2,e3,_⟩,h2⟩:=this;exact ⟨⟨g,x,e1,e2,e3,fun h=>no h10 h⟩,h2⟩,k.d' y,fun _ h=>new (k.b h).1.lt hv,fun _ h=>new (k.c h).1.lt hv,fun _ h=>new (k.d h).1.lt hv,k.bc,k.bd,k.cd,fun h=>no h10 h,k.q⟩
theorem step7 (k:PtK w0 n m L W v1 v2 v3 v4) (hL:L 7=false):PtK w0 n m (also L 7) (W.alloc (.cells (madeCells #[.int .i64 0] m) 3)) v1 (.slice (some ⟨W.heap.size,0,none⟩) m m) v3 v4:=by
 have y:Ext W (W.alloc (.cells (madeCells #[.int .i64 0] m) 3)):=Ext.alloc (Ext.refl W) _
 have hv:vb2 (.slice (some ⟨W.heap.size,0,none⟩) m m)=[W.heap.size]:=rfl
 have h11:L 11=false:=by
  cases e:L 11 with
  | false=>rfl
  | true=>exact no hL (k.q e).1
 exact ⟨k.ext.trans y,k.a' y,fun _=>⟨row W m,k.lo hv⟩,k.c' y,fun h=>by
  have:=k.d' y h;obtain ⟨⟨g,x,e1,e2,e3,_⟩,h2⟩:=this;exact ⟨⟨g,x,e1,e2,e3,fun h=>no h11 h⟩,h2⟩,fun h _=>old (k.a h).1.lt hv,k.ac,k.ad,fun _ h=>new (k.c h).1.lt hv,fun _ h=>new (k.d h).1.lt hv,k.cd,k.p,fun h=>no h11 h⟩
theorem step8 (k:PtK w0 n m L W v1 v2 v3 v4) (hL:L 8=false) (t:TypeId):PtK w0 n m (also L 8) (W.alloc (.cells #[.slice none 0 0] t)) v1 v2 (.pointer (some ⟨W.heap.size,0,none⟩)) v4:=by
 have y:Ext W (W.alloc (.cells #[.slice none 0 0] t)):=Ext.alloc (Ext.refl W) _
 have hv:vb2 (.pointer (some ⟨W.heap.size,0,none⟩))=[W.heap.size]:=rfl
 have h10:L 10=false:=by
  cases e:L 10 with
  | false=>rfl
  | true=>exact no hL (k.p e).2
 exact ⟨k.ext.trans y,k.a' y,k.b' y,fun _=>⟨box W _ _ t h10,k.lo hv⟩,k.d' y,k.ab,fun h _=>old (k.a h).1.lt hv,k.ad,fun h _=>old (k.b h).1.lt hv,k.bd,fun _ h=>new (k.d h).1.lt hv,fun h=>no h10 h,k.q⟩
theorem step9 (k:PtK w0 n m L W v1 v2 v3 v4) (hL:L 9=false) (t:TypeId):PtK w0 n m (also L 9) (W.alloc (.cells #[.slice none 0 0] t)) v1 v2 v3 (.pointer (some ⟨W.heap.size,0,none⟩)):=by
 have y:Ext W (W.alloc (.cells #[.slice none 0 0] t)):=Ext.alloc (Ext.refl W) _
 have hv:vb2 (.pointer (some ⟨W.heap.size,0,none⟩))=[W.heap.size]:=rfl
 have h11:L 11=false:=by
  cases e:L 11 with
  | false=>rfl
  | true=>exact no hL (k.q e).2
 exact ⟨k.ext.trans y,k.a' y,k.b' y,k.c' y,fun _=>⟨box W _ _ t h11,k.lo hv⟩,k.ab,k.ac,fun h _=>old (k.a h).1.lt hv,k.bc,fun h _=>old (k.b h).1.lt hv,fun h _=>old (k.c h).1.lt hv,k.p,fun h=>no h11 h⟩
theorem step10 (k:PtK w0 n m L W v1 v2 (.pointer (some ⟨g,0,none⟩)) v4) (h3:L 3=true) (h8:L 8=true):PtK w0 n m (also L 10) (W.setCell ⟨g,0,none⟩ v1) v1 v2 (.pointer (some ⟨g,0,none⟩)) v4:=by
 have y:But [g] W (W.setCell ⟨g,0,none⟩ v1):=(But.refl _ _).setCell (.inl (by simp)) _
 have n1:∀ b ∈ [g],b ∉ vb2 v1:=fun b hb hm=>k.ac h3 h8 b hm (by rw [List.mem_singleton.1 hb];simp [vb2])
 have n2:L 7=true → ∀ b ∈ [g],b ∉ vb2 v2:=fun h b hb hm=>k.bc h h8 b hm (by rw [List.mem_singleton.1 hb];simp [vb2])
 have n4:L 9=true → ∀ b ∈ [g],b ∉ vb2 v4:=fun h b hb hm=>k.cd h8 h g (by simp [vb2]) (by rw [← List.mem_singleton.1 hb];exact hm)
 have hg:=(k.c h8).2 g (by simp [vb2])
 refine ⟨y.toExt k.ext fun b hb=>by rw [List.mem_singleton.1 hb];exact hg,fun h=>⟨(k.a h).1.but y n1,(k.a h).2⟩,fun h=>⟨(k.b h).1.but y (n2 h),(k.b h).2⟩,fun h=>⟨?_,(k.c h).2⟩,fun h=>⟨(k.d h).1.but y (n4 h),(k.d h).2⟩,k.ab,k.ac,k.ad,k.bc,k.bd,k.cd,fun _=>⟨h3,h8⟩,k.q⟩
 obtain ⟨g',x,e1,e2,e3,_⟩:=(k.c h).1
 cases e1
 exact ⟨g,v1,rfl,by simp [go_sem,e2],by simp [go_sem,e3],fun _=>rfl⟩
theorem step11 (k:PtK w0 n m L W v1 v2 v3 (.pointer (some ⟨g,0,none⟩))) (h7:L 7=true) (h9:L 9=true):PtK w0 n m (also L 11) (W.setCell ⟨g,0,none⟩ v2) v1 v2 v3 (.pointer (some ⟨g,0,none⟩)):=by
 have y:But [g] W (W.setCell ⟨g,0,none⟩ v2):=(But.refl _ _).setCell (.inl (by simp)) _
 have n1:L 3=true → ∀ b ∈ [g],b ∉ vb2 v1:=fun h b hb hm=>k.ad h h9 b hm (by rw [List.mem_singleton.1 hb];simp [vb2])
 have n2:∀ b ∈ [g],b ∉ vb2 v2:=fun b hb hm=>k.bd h7 h9 b hm (by rw [List.mem_singleton.1 hb];simp [vb2])
 have n3:L 8=true → ∀ b ∈ [g],b ∉ vb2 v3:=fun h b hb hm=>k.cd h h9 b hm (by rw [List.mem_singleton.1 hb];simp [vb2])
 have hg:=(k.d h9).2 g (by simp [vb2])
 refine ⟨y.toExt k.ext fun b hb=>by rw [List.mem_singleton.1 hb];exact hg,fun h=>⟨(k.a h).1.but y (n1 h),(k.a h).2⟩,fun h=>⟨(k.b h).1.but y n2,(k.b h).2⟩,fun h=>⟨(k.c h).1.but y (n3 h),(k.c h).2⟩,fun h=>⟨?_,(k.d h).2⟩,k.ab,k.ac,k.ad,k.bc,k.bd,k.cd,k.p,fun _=>⟨h7,h9⟩⟩
 obtain ⟨g',x,e1,e2,e3,_⟩:=(k.d h).1
 cases e1
 exact ⟨g,v2,rfl,by simp [go_sem,e2],by simp [go_sem,e3],fun _=>rfl⟩
end PtK
open Go.RowKit Go.Maps
theorem toA_neg {A N:List Int} {r:Int} {x:Int} (h:r < 0) (hx:Hp.rd A (-1-r).toNat=some x):Nd.toA A N r=x:=by
 unfold Nd.toA
 rw [if_pos h,List.getD_eq_getElem?_getD,show A[(-1-r).toNat]? = some x from hx]
 rfl
theorem toA_pos {A N:List Int} {r:Int} {x:Int} (h:¬ r < 0) (hx:Hp.rd N r.toNat=some x):Nd.toA A N r=x:=by
 unfold Nd.toA
 rw [if_neg h,List.getD_eq_getElem?_getD,show N[r.toNat]? = some x from hx]
 rfl
set_option maxHeartbeats 4000000 in
theorem put1 {w:World} {g7 g8 ge gn n m:Nat} {A N:List Int} {r:Int} (hn:A.length=n) (hm:N.length=m) (hn2:n ≤ 1000) (hm2:m ≤ 1000) (b7:w.cell? ⟨g7,0,none⟩=some (.slice (some ⟨ge,0,none⟩) n n)) (b8:w.cell? ⟨g8,0,none⟩=some (.slice (some ⟨gn,0,none⟩) m m)) (ra:WordsAt w ge A) (rn:WordsAt w gn N) (h1 : -1-r < n) (h2:r < m) :
    Calls Tryz.prog 102 #[.int .i64 r,.pointer (some ⟨g7,0,none⟩),.pointer (some ⟨g8,0,none⟩)] w fun e w'=>e = .returned (.int .i64 (Nd.toA A N r)) ∧ Ext w w':=by
  by_cases h0:r < 0
  · obtain ⟨x,hx⟩:=rd_get (l:=A) (j:=(-1-r).toNat) (by omega);rw [toA_neg h0 hx];obtain ⟨k,hk⟩:∃ k:Nat,-1-r=(k:Int):=⟨(-1-r).toNat,by omega⟩
    rw [hk,Int.toNat_natCast] at hx;have q:=ra.get hx;have t0:decide (r < 0)=true:=decide_eq_true h0;have s1:IntKind.i64.wrap (-1-r)=(k:Int):=by rw [hk];exact IntWalk.i64_in _ (by omega)
    have s2:wrap64 (-1-r)=(k:Int):=by rw [hk];exact IntWalk.wrap64_in _ (by omega)
    have tk:decide ((k:Int) < (n:Int))=true:=decide_eq_true (by omega);have zl:k < n:=by omega
    clear hx ra rn hn hm h1 h2 h0 hk;go_enter Tryz.func102,Tryz.ntmps102
    go_wp2_with fail
    go_returns;exact ⟨rfl,exx⟩
  · obtain ⟨x,hx⟩:=rd_get (l:=N) (j:=r.toNat) (by omega);rw [toA_pos h0 hx];obtain ⟨k,rfl⟩:∃ k:Nat,r=(k:Int):=⟨r.toNat,by omega⟩
    rw [Int.toNat_natCast] at hx;have q:=rn.get hx;have t0:decide ((k:Int) < 0)=false:=decide_eq_false h0;have tk:decide ((k:Int) < (m:Int))=true:=decide_eq_true (by omega);have zl:k < m:=by omega
    clear hx ra rn hn hm h1 h2 h0;go_enter Tryz.func102,Tryz.ntmps102
    go_wp2_with fail
    go_returns;exact ⟨rfl,exx⟩
structure PtSt (w wr:World) (hd:Hd) (S:Hp.Hs) (L:DgL) (d:Nd.Dia) (gd g7 g8 ge gn:Nat) (RA RN:List Int):Prop where
 now:Now w wr hd S
 rd:DgRd wr L d.sizes d.order d.ends d.nodes
 b7:wr.cell? ⟨g7,0,none⟩=some (.slice (some ⟨ge,0,none⟩) d.ends.length d.ends.length)
 b8:wr.cell? ⟨g8,0,none⟩=some (.slice (some ⟨gn,0,none⟩) d.nodes.length d.nodes.length)
 d2:wr.cell? ⟨gd,2,none⟩=some (.slice L.pe d.ends.length L.ce)
 d3:wr.cell? ⟨gd,3,none⟩=some (.slice L.pn d.nodes.length L.cn)
 d4:wr.cell? ⟨gd,4,none⟩=some (.int .i64 d.root)
 ra:WordsAt wr ge RA
 rn:WordsAt wr gn RN
 ne:ge ≠ gn ∧ g7 ≠ ge ∧ g7 ≠ gn ∧ g8 ≠ ge ∧ g8 ≠ gn ∧ gd ≠ ge ∧ gd ≠ gn
 lo:w.heap.size ≤ gd ∧ w.heap.size ≤ g7 ∧ w.heap.size ≤ g8 ∧ w.heap.size ≤ ge ∧ w.heap.size ≤ gn
 dl:∀ b ∈ L.blocks,b < w.heap.size ∧ b ∉ hd.own
 hl:∀ b ∈ hd.own,b < w.heap.size
 sl:(∀ b o,hd.sp=some ⟨b,o,none⟩ → b < w.heap.size) ∧ ∀ b o,hd.op=some ⟨b,o,none⟩ → b < w.heap.size
namespace PtSt
variable {w wr w':World} {hd:Hd} {S S':Hp.Hs} {L:DgL} {d:Nd.Dia} {gd g7 g8 ge gn:Nat} {RA RN R':List Int}
theorem far (h:PtSt w wr hd S L d gd g7 g8 ge gn RA RN) {l:List Nat} (k:But l wr w') (hl:∀ b ∈ l,w.heap.size ≤ b ∧ b ≠ gd ∧ b ≠ g7 ∧ b ≠ g8 ∧ b ≠ ge ∧ b ≠ gn):PtSt w w' hd S L d gd g7 g8 ge gn RA RN:=by
 have old:∀ b,b < w.heap.size → b ∉ l:=fun b hb hm=>by have:=(hl b hm).1;omega
 have nd:gd ∉ l:=fun hm=>(hl _ hm).2.1 rfl
 have n7:g7 ∉ l:=fun hm=>(hl _ hm).2.2.1 rfl
 have n8:g8 ∉ l:=fun hm=>(hl _ hm).2.2.2.1 rfl
 have nge:ge ∉ l:=fun hm=>(hl _ hm).2.2.2.2.1 rfl
 have ngn:gn ∉ l:=fun hm=>(hl _ hm).2.2.2.2.2 rfl
 exact
  { h with
    now:=⟨h.now.toHAt.but k (old _ (h.hl _ (Hd.hb_own _))) (old _ (h.hl _ (Hd.gw_own _))) (old _ (h.hl _ (Hd.gm_own _))) (fun b o e=>old b (h.sl.1 b o e)) (fun b o e=>old b (h.sl.2 b o e)),h.now.but.over k fun b hb=>.inr (hl b hb).1⟩
    rd:=h.rd.but k fun b hb hm=>by have:=(h.dl b hm).1;have:=(hl b hb).1;omega
    b7:=(k.cell (cell_lt h.b7) n7 0).trans h.b7
    b8:=(k.cell (cell_lt h.b8) n8 0).trans h.b8
    d2:=(k.cell (cell_lt h.d2) nd 2).trans h.d2
    d3:=(k.cell (cell_lt h.d3) nd 3).trans h.d3
    d4:=(k.cell (cell_lt h.d4) nd 4).trans h.d4
    ra:=h.ra.but k nge
    rn:=h.rn.but k ngn }
theorem ext (h:PtSt w wr hd S L d gd g7 g8 ge gn RA RN) (k:Ext wr w'):PtSt w w' hd S L d gd g7 g8 ge gn RA RN:=h.far (l:=[]) (But.ofExt k) (by simp)
theorem heap (h:PtSt w wr hd S L d gd g7 g8 ge gn RA RN) (k:Now wr w' hd S'):PtSt w w' hd S' L d gd g7 g8 ge gn RA RN:=by
 have nb:∀ b,w.heap.size ≤ b → b ∉ hd.own:=fun b hb hm=>by have:=h.hl b hm;omega
 exact
  { h with
    now:=⟨k.toHAt,h.now.but.trans k.but⟩
    rd:=h.rd.but k.but fun b hb hm=>(h.dl b hm).2 hb
    b7:=(k.but.cell (cell_lt h.b7) (nb _ h.lo.2.1) 0).trans h.b7
    b8:=(k.but.cell (cell_lt h.b8) (nb _ h.lo.2.2.1) 0).trans h.b8
    d2:=(k.but.cell (cell_lt h.d2) (nb _ h.lo.1) 2).trans h.d2
    d3:=(k.but.cell (cell_lt h.d3) (nb _ h.lo.1) 3).trans h.d3
    d4:=(k.but.cell (cell_lt h.d4) (nb _ h.lo.1) 4).trans h.d4
    ra:=h.ra.but k.but (nb _ h.lo.2.2.2.1)
    rn:=h.rn.but k.but (nb _ h.lo.2.2.2.2) }
theorem setA (h:PtSt w wr hd S L d gd g7 g8 ge gn RA RN) {j:Nat} {x:Int} (hw:Hp.wr RA j x=some R') (h1 : -9223372036854775808 ≤ x) (h2:x ≤ 9223372036854775807):PtSt w (wr.setCell ⟨ge,j,none⟩ (.int .i64 x)) hd S L d gd g7 g8 ge gn R' RN:=by
 have k:But [ge] wr (wr.setCell ⟨ge,j,none⟩ (.int .i64 x)):=(But.refl _ _).setCell (.inl (by simp)) _
 have old:∀ b,b < w.heap.size → b ∉ [ge]:=fun b hb hm=>by have:=h.lo.2.2.2.1;rw [List.mem_singleton.1 hm] at hb;omega
 obtain ⟨e1,e2,e3,e4,e5,e6,e7⟩:=h.ne
 exact
  { h with
    now:=⟨h.now.toHAt.but k (old _ (h.hl _ (Hd.hb_own _))) (old _ (h.hl _ (Hd.gw_own _))) (old _ (h.hl _ (Hd.gm_own _))) (fun b o e=>old b (h.sl.1 b o e)) (fun b o e=>old b (h.sl.2 b o e)),h.now.but.over k fun b hb=>.inr (by rw [List.mem_singleton.1 hb];exact h.lo.2.2.2.1)⟩
    rd:=h.rd.but k fun b hb hm=>old b (h.dl b hm).1 hb
    b7:=(k.cell (cell_lt h.b7) (by simpa using e2) 0).trans h.b7
    b8:=(k.cell (cell_lt h.b8) (by simpa using e4) 0).trans h.b8
    d2:=(k.cell (cell_lt h.d2) (by simpa using e6) 2).trans h.d2
    d3:=(k.cell (cell_lt h.d3) (by simpa using e6) 3).trans h.d3
    d4:=(k.cell (cell_lt h.d4) (by simpa using e6) 4).trans h.d4
    ra:=h.ra.set hw h1 h2
    rn:=h.rn.but k (by simpa using fun e=>e1 (Eq.symm e)) }
theorem setN (h:PtSt w wr hd S L d gd g7 g8 ge gn RA RN) {j:Nat} {x:Int} (hw:Hp.wr RN j x=some R') (h1 : -9223372036854775808 ≤ x) (h2:x ≤ 9223372036854775807):PtSt w (wr.setCell ⟨gn,j,none⟩ (.int .i64 x)) hd S L d gd g7 g8 ge gn RA R':=by
 have k:But [gn] wr (wr.setCell ⟨gn,j,none⟩ (.int .i64 x)):=(But.refl _ _).setCell (.inl (by simp)) _
 have old:∀ b,b < w.heap.size → b ∉ [gn]:=fun b hb hm=>by have:=h.lo.2.2.2.2;rw [List.mem_singleton.1 hm] at hb;omega
 obtain ⟨e1,e2,e3,e4,e5,e6,e7⟩:=h.ne
 exact
  { h with
    now:=⟨h.now.toHAt.but k (old _ (h.hl _ (Hd.hb_own _))) (old _ (h.hl _ (Hd.gw_own _))) (old _ (h.hl _ (Hd.gm_own _))) (fun b o e=>old b (h.sl.1 b o e)) (fun b o e=>old b (h.sl.2 b o e)),h.now.but.over k fun b hb=>.inr (by rw [List.mem_singleton.1 hb];exact h.lo.2.2.2.2)⟩
    rd:=h.rd.but k fun b hb hm=>old b (h.dl b hm).1 hb
    b7:=(k.cell (cell_lt h.b7) (by simpa using e3) 0).trans h.b7
    b8:=(k.cell (cell_lt h.b8) (by simpa using e5) 0).trans h.b8
    d2:=(k.cell (cell_lt h.d2) (by simpa using e7) 2).trans h.d2
    d3:=(k.cell (cell_lt h.d3) (by simpa using e7) 3).trans h.d3
    d4:=(k.cell (cell_lt h.d4) (by simpa using e7) 4).trans h.d4
    ra:=h.ra.but k (by simpa using e1)
    rn:=h.rn.set hw h1 h2 }
end PtSt
def PutPost (w:World) (hd:Hd) (x e:Int) (S:Hp.Hs) (r:Ending) (w':World):Prop:=r = .returned (.tuple #[.int .i64 x,.int .i64 e]) ∧ Now w w' hd S
open Go.RowKit Go.Maps
set_option maxRecDepth 100000 in
set_option maxHeartbeats 8000000 in
theorem put_arg {w:World} {hd:Hd} {S:Hp.Hs} {L:DgL} {d:Nd.Dia} (h:HAt w hd S) (hr:DgRd w L d.sizes d.order d.ends d.nodes) (hN:DgNumN d L) (hc:checkE d=0) (hne:¬ (d.sizes=S.sizes ∧ d.order=S.order)) :
    Calls Tryz.prog 37 #[.pointer (some ⟨hd.hb,0,none⟩),dgV L d.sizes.length d.order.length d.ends.length d.nodes.length d.root] w (PutPost w hd 0 2 S):=by
  have H:=Lib.hid (Now.refl h);have IM:=Lib.hid (fun W (hE:Ext w W)=>isMade_yes (h.ext hE));have CK:=Lib.hid (fun W (hE:Ext w W)=>nCheck (hr.ext hE) hN);rw [hc] at CK;obtain ⟨b1,hb1⟩:∃ b1,decide (d.sizes=S.sizes)=b1:=⟨_,rfl⟩
  obtain ⟨b2,hb2⟩:∃ b2,decide (d.order=S.order)=b2:=⟨_,rfl⟩
  have hbb:¬ (b1=true ∧ b2=true):=by
   rintro ⟨rfl,rfl⟩;exact hne ⟨of_decide_eq_true hb1,of_decide_eq_true hb2⟩
  have ZZ:=Lib.hid (fun W (hE:Ext w W)=>sEqual_is hb1 (hr.ext hE).s (h.ext hE).sizes);have OO:=Lib.hid (fun W (hE:Ext w W)=>sEqual_is hb2 (hr.ext hE).o (h.ext hE).order);have c0:=h.c0;have c1:=h.c1;clear h hr hN hc hne hb1 hb2;generalize d.sizes.length=n1 at *;generalize d.order.length=n2 at *;generalize d.ends.length=n3 at *;generalize d.nodes.length=n4 at *;generalize S.sizes.length=m1 at *;generalize S.order.length=m2 at *;generalize d.root=rt at *;unfold dgV DgL.cells at *;have mixed:Tryz.prog.follows .mixedOrders=true:=by kernel_rfl
  go_enter Tryz.func37,Tryz.ntmps37
  go_upto_region 6 with (first
   | (go_at_call 72;refine (IM.out _ (exx)).mono ?_;rintro e w1 ⟨rfl,hb1⟩;obtain ⟨hc1,hf1,hs1⟩:=hb1.cells;have hz1_0:w.heap.size < w1.heap.size:=(by have h:=hb1.le;(try simp at h);omega);have hc1_0:=hb1.cell (b:=w.heap.size) (by first | omega | (simp;done) | (simp;omega));have hf1_0:=hb1.frozen (b:=w.heap.size) (by first | omega | (simp;done) | (simp;omega)))
   | (go_at_call 100;refine (CK.out _ (exx)).mono ?_;rintro e w2 ⟨rfl,hb2⟩;obtain ⟨hc2,hf2,hs2⟩:=hb2.cells;have hz2_0:w.heap.size < w2.heap.size:=(by have h:=hb2.le;(try simp at h);omega);have hc2_0:=hb2.cell (b:=w.heap.size) (by first | omega | (simp;done) | (simp;omega));have hf2_0:=hb2.frozen (b:=w.heap.size) (by first | omega | (simp;done) | (simp;omega))))
  refine cut_world (F:=fun W=>Hid (Ext w W) ∧ W.cell? ⟨w.heap.size,0,none⟩=some (.slice L.ps n1 L.cs) ∧ W.cell? ⟨w.heap.size,1,none⟩=some (.slice L.po n2 L.co)) ⟨Lib.hid (exx),by go_simp,by go_simp⟩ ?_;intro w3 ⟨E3,g0,g1⟩;clear hb2 hc2 hf2 hs2 hz2_0 hc2_0 hf2_0 hb1 hc1 hf1 hs1 hz1_0 hc1_0 hf1_0;have q0:=(E3.out.cell (cell_lt c0) 0).trans c0;have q1:=(E3.out.cell (cell_lt c0) 1).trans c1;generalize w.heap.size=gd at g0 g1 ⊢;have zg:=cell_lt g0;have zq:=cell_lt q0
  cases b1 with
  | false=>
   have PR34:=Lib.hid (fun (ww:World) (hSw:Ext w3 ww)=>And.intro ((hSw.cell zg 0).trans g0) ((hSw.cell zq 0).trans q0));refine wp_region_seq (S:=fun W=>Ext w3 W) (R:=Ext) (by kernel_rfl) Ext.refl ?_ ?_
   · exact exx
   refine' tkL 0 rfl ?h0_2063 ?_
   case h0_2063=>(intro w q;obtain ⟨g0',q0'⟩:=PR34.out w q;go_simp;try with_reducible rfl)
   refine layy ?_;refine' tkL 1 rfl ?h1_2064 ?_
   case h1_2064=>(intro w q;obtain ⟨g0',q0'⟩:=PR34.out w q;go_simp;try with_reducible rfl)
   refine layy ?_;refine' tkL 2 rfl ?h2_2065 ?_
   case h2_2065=>(intro w q;obtain ⟨g0',q0'⟩:=PR34.out w q;go_simp;try with_reducible rfl)
   refine layy ?_;refine' tkL 3 rfl ?h3_2066 ?_
   case h3_2066=>(intro w q;obtain ⟨g0',q0'⟩:=PR34.out w q;go_simp;try with_reducible rfl)
   refine layy ?_;refine' tkL 4 rfl ?h4_2067 ?_
   case h4_2067=>(intro w q;obtain ⟨g0',q0'⟩:=PR34.out w q;go_simp;try with_reducible rfl)
   refine layy ?_;refine' tkL 5 rfl ?h5_2068 ?_
   case h5_2068=>(intro w q;obtain ⟨g0',q0'⟩:=PR34.out w q;go_simp;try with_reducible rfl)
   refine layy ?_;refine' tkL 6 rfl ?h6_2069 ?_
   case h6_2069=>(intro w q;obtain ⟨g0',q0'⟩:=PR34.out w q;go_simp;try with_reducible rfl)
   refine layy ?_;refine' tkR 7 (v:=.bool false) rfl (Or.inr ⟨by rfl,101,_, ?hx7_2070, ?hy7_2070⟩) ?rest7_2070
   case hx7_2070=>(intro w hSw;go_simp;try with_reducible rfl)
   case hy7_2070=>exact fun w hE=>(ZZ.out _ (E3.out.trans hE)).mono (fun _ _ h=>⟨h.1,h.2,Ext.trans hE h.2⟩)
   refine layy ?_;refine' tkL 8 rfl ?h8_2071 ?_
   case h8_2071=>(intro w q;obtain ⟨g0',q0'⟩:=PR34.out w q;go_simp;try with_reducible rfl)
   refine layy ?_;refine' tkL 9 rfl ?h9_2072 ?_
   case h9_2072=>(intro w q;obtain ⟨g0',q0'⟩:=PR34.out w q;go_simp;try with_reducible rfl)
   refine layy ?_;refine wpAnyR_done (by kernel_rfl) ?_ _;intro x4 _ Ex4
   go_wp2_with fail
   go_returns;exact ⟨rfl,H.out.ext (E3.out.trans Ex4)⟩
  | true=>
   have hb2:b2=false:=by
    cases b2 with
    | false=>rfl
    | true=>exact absurd ⟨rfl,rfl⟩ hbb
   subst hb2;have PR35:=Lib.hid (fun (ww:World) (hSw:Ext w3 ww)=>And.intro ((hSw.cell zg 0).trans g0) ((hSw.cell zq 0).trans q0));refine wp_region_seq (S:=fun W=>Ext w3 W) (R:=Ext) (by kernel_rfl) Ext.refl ?_ ?_
   · exact exx
   refine' tkL 0 rfl ?h0_2073 ?_
   case h0_2073=>(intro w q;obtain ⟨g0',q0'⟩:=PR35.out w q;go_simp;try with_reducible rfl)
   refine layy ?_;refine' tkL 1 rfl ?h1_2074 ?_
   case h1_2074=>(intro w q;obtain ⟨g0',q0'⟩:=PR35.out w q;go_simp;try with_reducible rfl)
   refine layy ?_;refine' tkL 2 rfl ?h2_2075 ?_
   case h2_2075=>(intro w q;obtain ⟨g0',q0'⟩:=PR35.out w q;go_simp;try with_reducible rfl)
   refine layy ?_;refine' tkL 3 rfl ?h3_2076 ?_
   case h3_2076=>(intro w q;obtain ⟨g0',q0'⟩:=PR35.out w q;go_simp;try with_reducible rfl)
   refine layy ?_;refine' tkL 4 rfl ?h4_2077 ?_
   case h4_2077=>(intro w q;obtain ⟨g0',q0'⟩:=PR35.out w q;go_simp;try with_reducible rfl)
   refine layy ?_;refine' tkL 5 rfl ?h5_2078 ?_
   case h5_2078=>(intro w q;obtain ⟨g0',q0'⟩:=PR35.out w q;go_simp;try with_reducible rfl)
   refine layy ?_;refine' tkL 6 rfl ?h6_2079 ?_
   case h6_2079=>(intro w q;obtain ⟨g0',q0'⟩:=PR35.out w q;go_simp;try with_reducible rfl)
   refine layy ?_;refine' tkR 7 (v:=.bool true) rfl (Or.inr ⟨by rfl,101,_, ?hx7_2080, ?hy7_2080⟩) ?rest7_2080
   case hx7_2080=>(intro w hSw;go_simp;try with_reducible rfl)
   case hy7_2080=>exact fun w hE=>(ZZ.out _ (E3.out.trans hE)).mono (fun _ _ h=>⟨h.1,h.2,Ext.trans hE h.2⟩)
   refine layy ?_;refine' tkL 8 rfl ?h8_2081 ?_
   case h8_2081=>(intro w q;obtain ⟨g0',q0'⟩:=PR35.out w q;go_simp;try with_reducible rfl)
   refine layy ?_;refine' tkL 9 rfl ?h9_2082 ?_
   case h9_2082=>(intro w q;obtain ⟨g0',q0'⟩:=PR35.out w q;go_simp;try with_reducible rfl)
   refine layy ?_;refine wpAnyR_done (by kernel_rfl) ?_ _;intro x4 _ Ex4;have E4:=Lib.hid (E3.out.trans Ex4);have g14:=(Ex4.cell zg 1).trans g1;have q14:=(Ex4.cell zq 1).trans q1;have zg4:=cell_lt g14;have zq4:=cell_lt q14;clear Ex4 g0 g1 q0 q1 zg zq;go_upto_region 7 with fail
   have PR36:=Lib.hid (fun (ww:World) (hSw:Ext x4 ww)=>And.intro ((hSw.cell zg4 1).trans g14) ((hSw.cell zq4 1).trans q14));refine wp_region_seq (S:=fun W=>Ext x4 W) (R:=Ext) (by kernel_rfl) Ext.refl ?_ ?_
   · exact exx
   refine' tkL 0 rfl ?h0_2083 ?_
   case h0_2083=>(intro w q;obtain ⟨g1',q1'⟩:=PR36.out w q;go_simp;try with_reducible rfl)
   refine layy ?_;refine' tkL 1 rfl ?h1_2084 ?_
   case h1_2084=>(intro w q;obtain ⟨g1',q1'⟩:=PR36.out w q;go_simp;try with_reducible rfl)
   refine layy ?_;refine' tkL 2 rfl ?h2_2085 ?_
   case h2_2085=>(intro w q;obtain ⟨g1',q1'⟩:=PR36.out w q;go_simp;try with_reducible rfl)
   refine layy ?_;refine' tkL 3 rfl ?h3_2086 ?_
   case h3_2086=>(intro w q;obtain ⟨g1',q1'⟩:=PR36.out w q;go_simp;try with_reducible rfl)
   refine layy ?_;refine' tkL 4 rfl ?h4_2087 ?_
   case h4_2087=>(intro w q;obtain ⟨g1',q1'⟩:=PR36.out w q;go_simp;try with_reducible rfl)
   refine layy ?_;refine' tkL 5 rfl ?h5_2088 ?_
   case h5_2088=>(intro w q;obtain ⟨g1',q1'⟩:=PR36.out w q;go_simp;try with_reducible rfl)
   refine layy ?_;refine' tkL 6 rfl ?h6_2089 ?_
   case h6_2089=>(intro w q;obtain ⟨g1',q1'⟩:=PR36.out w q;go_simp;try with_reducible rfl)
   refine layy ?_;refine' tkR 7 (v:=.bool false) rfl (Or.inr ⟨by rfl,101,_, ?hx7_2090, ?hy7_2090⟩) ?rest7_2090
   case hx7_2090=>(intro w hSw;go_simp;try with_reducible rfl)
   case hy7_2090=>exact fun w hE=>(OO.out _ (E4.out.trans hE)).mono (fun _ _ h=>⟨h.1,h.2,Ext.trans hE h.2⟩)
   refine layy ?_;refine' tkL 8 rfl ?h8_2091 ?_
   case h8_2091=>(intro w q;obtain ⟨g1',q1'⟩:=PR36.out w q;go_simp;try with_reducible rfl)
   refine layy ?_;refine' tkL 9 rfl ?h9_2092 ?_
   case h9_2092=>(intro w q;obtain ⟨g1',q1'⟩:=PR36.out w q;go_simp;try with_reducible rfl)
   refine layy ?_;refine wpAnyR_done (by kernel_rfl) ?_ _;intro x5 _ Ex5
   go_wp2_with fail
   go_returns;exact ⟨rfl,H.out.ext (E4.out.trans Ex5)⟩
end Go.Proofs.YtdokmmhjmclmnaaGreat
