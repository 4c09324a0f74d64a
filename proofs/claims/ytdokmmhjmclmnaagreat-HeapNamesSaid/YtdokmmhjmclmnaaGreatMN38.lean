/-
  Part 38 of a proof: ND9 NM9.
-/
import Derived.Test.YtdokmmhjmclmnaaGreatMN33
import Derived.Test.YtdokmmhjmclmnaaGreatMN37
set_option linter.unusedSimpArgs false
set_option linter.unusedVariables false
set_option linter.unusedSectionVars false
set_option linter.unnecessarySimpa false
namespace Go.Proofs.YtdokmmhjmclmnaaGreat
open Go.RowKit Go.Maps
theorem upto_mem {n:Nat} {x:Int} {j:Nat} (h:Hp.rd (Hp.upto n) j=some x):x=(j:Int) ∧ j < n:=by
 unfold Hp.rd Hp.upto at h
 rw [List.getElem?_map] at h
 cases hr:(List.range n)[j]? with
 | none=>rw [hr] at h;simp at h
 | some k=>
  rw [hr] at h;obtain ⟨h1,h2⟩:=List.getElem?_eq_some_iff.1 hr;simp at h2 h1;subst h2;exact ⟨by simpa using h.symm,h1⟩
theorem all_upto {n:Nat} {q:Int → Bool} {p:Nat → Bool} (h:∀ j,j < n → q (j:Int)=p j):(Hp.upto n).all q=(List.range n).all p:=by
 unfold Hp.upto
 rw [List.all_map]
 apply Bool.eq_iff_iff.2
 simp only [List.all_eq_true,List.mem_range,Function.comp]
 exact ⟨fun k j hj=>by rw [← h j hj];exact k j hj,fun k j hj=>by rw [show ((j:Nat):Int)=(j:Int) from rfl];exact (h j hj).trans (k j hj)⟩
structure Own7 (W:World) (g:Nat) (c0 c1 c2 c3 c4 c5 c6:Value):Prop where
 a0:W.cell? ⟨g,0,none⟩=some c0
 a1:W.cell? ⟨g,1,none⟩=some c1
 a2:W.cell? ⟨g,2,none⟩=some c2
 a3:W.cell? ⟨g,3,none⟩=some c3
 a4:W.cell? ⟨g,4,none⟩=some c4
 a5:W.cell? ⟨g,5,none⟩=some c5
 a6:W.cell? ⟨g,6,none⟩=some c6
 z:∀ o,W.frozen? ⟨g,o,none⟩=false
namespace Own7
variable {W W':World} {g:Nat} {c0 c1 c2 c3 c4 c5 c6 d0 d1 d2 d3 d4 d5 d6:Value}
theorem but (h:Own7 W g c0 c1 c2 c3 c4 c5 c6) {l:List Nat} (k:But l W W') (hg:g ∉ l):Own7 W' g c0 c1 c2 c3 c4 c5 c6:=by
 have z:=cell_lt h.a0
 exact ⟨(k.cell z hg 0).trans h.a0,(k.cell z hg 1).trans h.a1,(k.cell z hg 2).trans h.a2,(k.cell z hg 3).trans h.a3,(k.cell z hg 4).trans h.a4,(k.cell z hg 5).trans h.a5,(k.cell z hg 6).trans h.a6,fun o=>(k.frozen z hg o).trans (h.z o)⟩
theorem ext (h:Own7 W g c0 c1 c2 c3 c4 c5 c6) (k:Ext W W'):Own7 W' g c0 c1 c2 c3 c4 c5 c6:=h.but (l:=[]) (But.ofExt k) (by simp)
theorem set (h:Own7 W g c0 c1 c2 c3 c4 c5 c6):Own7 (((((((W.setCell ⟨g,0,none⟩ d0).setCell ⟨g,1,none⟩ d1).setCell ⟨g,2,none⟩ d2).setCell ⟨g,3,none⟩ d3).setCell ⟨g,4,none⟩ d4).setCell ⟨g,5,none⟩ d5).setCell ⟨g,6,none⟩ d6) g d0 d1 d2 d3 d4 d5 d6:=by
 obtain ⟨a0,a1,a2,a3,a4,a5,a6,z⟩:=h
 exact ⟨by simp [go_sem,a0],by simp [go_sem,a1],by simp [go_sem,a2],by simp [go_sem,a3],by simp [go_sem,a4],by simp [go_sem,a5],by simp [go_sem,a6],fun o=>by simp [go_sem,z]⟩
theorem setBut:But [g] W (((((((W.setCell ⟨g,0,none⟩ d0).setCell ⟨g,1,none⟩ d1).setCell ⟨g,2,none⟩ d2).setCell ⟨g,3,none⟩ d3).setCell ⟨g,4,none⟩ d4).setCell ⟨g,5,none⟩ d5).setCell ⟨g,6,none⟩ d6):=
 (((((((But.refl _ _).setCell (.inl (by simp)) _).setCell (.inl (by simp)) _).setCell (.inl (by simp)) _).setCell (.inl (by simp)) _).setCell (.inl (by simp)) _).setCell (.inl (by simp)) _).setCell (.inl (by simp)) _
end Own7
def lsZ:Value:=.agg #[.slice none 0 0,.slice none 0 0,.slice none 0 0,.slice none 0 0,.slice none 0 0,.slice none 0 0,.int .i64 0]
structure DgNumN (d:Nd.Dia) (L:DgL):Prop extends DgNum d where
 el1:d.ends.length ≤ 1000
 nl1:d.nodes.length ≤ 1000
 ol:d.order.length ≤ 1000000
 on:0 < d.order.length ∨ L.po=none
 ends:∀ v ∈ d.ends,-9223372036854775808 ≤ v.2 ∧ v.2 ≤ 9223372036854775807
 vars:∀ q ∈ d.nodes,-9223372036854775808 ≤ q.1 ∧ q.1 ≤ 9223372036854775807
set_option maxRecDepth 100000 in
set_option maxHeartbeats 16000000 in
theorem nOpenLoose {w:World} {L:DgL} {d:Nd.Dia} {v:Value} (h:DgRd w L d.sizes d.order d.ends d.nodes) (hN:DgNumN d L) (hv:(if Hp.frameErr d.sizes d.order=0 then lsV L d.sizes.length d.order.length d.ends.length d.nodes.length d.root else lsZ)=v) :
    Calls Tryz.prog 179 #[dgV L d.sizes.length d.order.length d.ends.length d.nodes.length d.root] w fun e w'=>e = .returned (.tuple #[v,.int .i64 (looseE d)]) ∧ Ext w w':=by
  have CF:=Lib.hid (fun W (hE:Ext w W)=>frame_any (h.s.ext hE) (h.o.ext hE) hN.on hN.ol);have l4:=h.n.le;rw [zip_nodeC_len h.kl] at l4;have nl:=hN.nl1
  by_cases hfe:Hp.frameErr d.sizes d.order=0
  case neg=>
   rw [if_neg hfe] at hv;subst hv;unfold lsZ;have e:looseE d=Hp.frameErr d.sizes d.order:=by unfold looseE;rw [if_pos hfe]
   rw [e];have t0:(Hp.frameErr d.sizes d.order != 0)=true:=by simpa using hfe
   have HF:=Lib.hid hfe;clear h hN hfe e;unfold dgV DgL.cells;generalize Hp.frameErr d.sizes d.order=fe at *;generalize d.sizes.length=n1 at *;generalize d.order.length=n2 at *;generalize d.ends.length=n3 at *;generalize d.nodes.length=n4 at *;generalize d.root=rt at *;go_enter Tryz.func179,Tryz.ntmps179
   go_wp2_with (go_at_call 121;refine (CF.out _ (exx)).mono ?_;rintro e w1 ⟨rfl,hb1⟩;obtain ⟨hc1,hf1,hs1⟩:=hb1.cells;have hz1_0:w.heap.size < w1.heap.size:=(by have h:=hb1.le;(try simp at h);omega);have hc1_0:=hb1.cell (b:=w.heap.size) (by first | omega | (simp;done) | (simp;omega));have hf1_0:=hb1.frozen (b:=w.heap.size) (by first | omega | (simp;done) | (simp;omega));have hz1_1:w.heap.size+1 < w1.heap.size:=(by have h:=hb1.le;(try simp at h);omega);have hc1_1:=hb1.cell (b:=w.heap.size+1) (by first | omega | (simp;done) | (simp;omega));have hf1_1:=hb1.frozen (b:=w.heap.size+1) (by first | omega | (simp;done) | (simp;omega)))
   refine bodyPost_ret (v:=.tuple #[.agg #[.slice none 0 0,.slice none 0 0,.slice none 0 0,.slice none 0 0,.slice none 0 0,.slice none 0 0,.int .i64 0],.int .i64 fe]) (by simp [results,Tryz.results179,go_sem, *]) rfl ?_;exact ⟨rfl,exx⟩
  case pos=>
   rw [if_pos hfe] at hv;subst hv;have e0:looseE d=if looseB d=true then 0 else 4:=by unfold looseE;rw [if_neg (by omega)]
   rw [hfe] at CF;have fo:=(Hp.frameErr_ok hfe).1;have hz6:=fo.toFr.few;have AV:=Lib.hid (fun (b:Bool) (hb:d.ends.all cellOk=b) W (hE:Ext w W)=>nAllV (h.e.ext hE) (fun v hv=>⟨hN.f v hv,hN.ends v hv⟩) hb);have KD:=Lib.hid (fun W (hE:Ext w W)=>nIsKid (h.ext hE) d.root d.nodes.length (-1) hN.root.1 (Nat.le_refl _) (by have:=hN.el1;omega));have BR:=Lib.hid (fun (i:Nat) (hi:i < d.nodes.length) W (hE:Ext w W)=>nIsBranch (h.ext hE) hi (by have:=hN.el1;omega) hz6 hN.kids hN.vars);have HL:=Lib.hid (looseN_eq fo);have HB:=Lib.hid (fun (b:Bool) (hb:(List.range d.nodes.length).all (branchN d)=b)=>(all_upto (n:=d.nodes.length) (q:=fun x=>branchN d x.toNat) (p:=branchN d) (fun j _=>by simp)).trans hb);have hsz:=h.s.le;have hoz:=h.o.le;have tn:decide ((d.nodes.length:Int) > 6000)=false:=decide_eq_false (by omega);have mixed:Tryz.prog.follows .mixedOrders=true:=by kernel_rfl
   have HE0:=Lib.hid e0;generalize looseE d=res at *;clear h hN hfe e0 fo;unfold dgV DgL.cells lsV at *;obtain ⟨ba,hba⟩:∃ ba,d.ends.all cellOk=ba:=⟨_,rfl⟩
   obtain ⟨bb,hbb⟩:∃ bb,(List.range d.nodes.length).all (branchN d)=bb:=⟨_,rfl⟩
   obtain ⟨bc,hbc⟩:∃ bc,kidN d d.root d.nodes.length (-1)=bc:=⟨_,rfl⟩
   have AV:=Lib.hid (AV.out ba hba);have HB:=Lib.hid (HB.out bb hbb);rw [hba,hbb,hbc] at HL;rw [hbc] at KD;have NM:=Lib.hid (fun W=>numbers_any (w:=W) (n:=d.nodes.length) nl);clear hba hbb hbc;generalize hlb:looseB d=lb at *;clear hlb;generalize d.sizes.length=n1 at *;generalize d.order.length=n2 at *;generalize d.ends.length=n3 at *;generalize d.nodes.length=n4 at *;generalize d.root=rt at *
   have AI:=Lib.hid (fun W (hE:Ext w W) g (hS:SliceAt W (some ⟨g,0,none⟩) n4 (Hp.upto n4))=>(by
    have:=nAll (first:=#[.agg #[.slice L.ps n1 L.cs,.slice L.po n2 L.co,.slice L.ps n1 L.cs,.slice L.po n2 L.co,.slice L.pe n3 L.ce,.slice L.pn n4 L.cn,.int .i64 rt]]) (cap:=#[]) (enters_of Tryz.func190 (by kernel_rfl) rfl) hS (fun j x hx _ W' hW=>by
     obtain ⟨rfl,hj⟩:=upto_mem hx;rw [Int.toNat_natCast];exact BR.out j hj W' (hE.trans hW)) HB.out
    rw [upto_length] at this;exact this:Calls Tryz.prog 189 #[.slice (some ⟨g,0,none⟩) n4 n4,.func (.func 190) #[.agg #[.slice L.ps n1 L.cs,.slice L.po n2 L.co,.slice L.ps n1 L.cs,.slice L.po n2 L.co,.slice L.pe n3 L.ce,.slice L.pn n4 L.cn,.int .i64 rt]] #[]] W fun e w'=>e = .returned (.bool bb) ∧ Ext W w'))
   go_enter Tryz.func179,Tryz.ntmps179;go_upto_region 5 with (go_at_call 121;refine (CF.out _ (exx)).mono ?_;rintro e w1 ⟨rfl,hb1⟩;obtain ⟨hc1,hf1,hs1⟩:=hb1.cells;have hz1_0:w.heap.size < w1.heap.size:=(by have h:=hb1.le;(try simp at h);omega);have hc1_0:=hb1.cell (b:=w.heap.size) (by first | omega | (simp;done) | (simp;omega));have hf1_0:=hb1.frozen (b:=w.heap.size) (by first | omega | (simp;done) | (simp;omega));have hz1_1:w.heap.size+1 < w1.heap.size:=(by have h:=hb1.le;(try simp at h);omega);have hc1_1:=hb1.cell (b:=w.heap.size+1) (by first | omega | (simp;done) | (simp;omega));have hf1_1:=hb1.frozen (b:=w.heap.size+1) (by first | omega | (simp;done) | (simp;omega)))
   have O1:Own7 w1 (w.heap.size+1) (.slice none 0 0) (.slice none 0 0) (.slice none 0 0) (.slice none 0 0) (.slice none 0 0) (.slice none 0 0) (.int .i64 0):=⟨by rw [hc1_1];go_simp,by rw [hc1_1];go_simp,by rw [hc1_1];go_simp,by rw [hc1_1];go_simp,by rw [hc1_1];go_simp,by rw [hc1_1];go_simp,by rw [hc1_1];go_simp,fun o=>by rw [hf1_1];go_simp⟩
   refine cut_world (F:=fun W=>Hid (Ext w W) ∧ Hid (Own7 W (w.heap.size+1) (.slice L.ps n1 L.cs) (.slice L.po n2 L.co) (.slice L.ps n1 L.cs) (.slice L.po n2 L.co) (.slice L.pe n3 L.ce) (.slice L.pn n4 L.cn) (.int .i64 rt)) ∧ W.cell? ⟨w.heap.size,2,none⟩=some (.slice L.pe n3 L.ce) ∧ W.cell? ⟨w.heap.size,3,none⟩=some (.slice L.pn n4 L.cn) ∧ W.cell? ⟨w.heap.size,4,none⟩=some (.int .i64 rt)) ⟨Lib.hid (exx),Lib.hid O1.set, ?x1, ?x2, ?x3⟩ ?_
   case x1=>have:=hc1_0 2;go_simp
   case x2=>have:=hc1_0 3;go_simp
   case x3=>have:=hc1_0 4;go_simp
   intro w2 ⟨E2,O2,d2,d3,d4⟩;have GL:=Lib.hid (show w.heap.size ≤ w.heap.size+1 from by omega);have zd:=cell_lt d2;clear O1 hb1 hc1 hf1 hs1 hz1_0 hc1_0 hf1_0 hz1_1 hc1_1 hf1_1 CF;generalize w.heap.size+1=gl at O2 GL ⊢;generalize w.heap.size=gd at d2 d3 d4 zd ⊢
   cases ba with
   | false=>
    have er:res=4:=by rw [HE0.out,← HL.out];simp
    subst er;go_upto_region 10 with (go_at_call 187;refine (AV.out _ (E2.out.trans (exx))).mono ?_;rintro e w3 ⟨rfl,hb3⟩)
    have O3:=Lib.hid (O2.out.ext hb3);have E3:=Lib.hid (E2.out.trans hb3);have OF:=Lib.hid (Own7.set (d0:=.slice L.ps n1 L.cs) (d1:=.slice L.po n2 L.co) (d2:=.slice L.ps n1 L.cs) (d3:=.slice L.po n2 L.co) (d4:=.slice L.pe n3 L.ce) (d5:=.slice L.pn n4 L.cn) (d6:=.int .i64 rt) O3.out);have KF:=Lib.hid (((Own7.setBut (W:=w3) (g:=gl) (d0:=.slice L.ps n1 L.cs) (d1:=.slice L.po n2 L.co) (d2:=.slice L.ps n1 L.cs) (d3:=.slice L.po n2 L.co) (d4:=.slice L.pe n3 L.ce) (d5:=.slice L.pn n4 L.cn) (d6:=.int .i64 rt))).toExt E3.out (fun b hb=>by rw [List.mem_singleton.1 hb];exact GL.out));obtain ⟨l0,l1,l2,l3,l4',l5,l6,lz⟩:=O3.out
    go_wp2_with fail
    clear l0 l1 l2 l3 l4' l5 l6 lz;obtain ⟨l0,l1,l2,l3,l4',l5,l6,lz⟩:=OF.out;refine bodyPost_ret (v:=.tuple #[.agg #[.slice L.ps n1 L.cs,.slice L.po n2 L.co,.slice L.ps n1 L.cs,.slice L.po n2 L.co,.slice L.pe n3 L.ce,.slice L.pn n4 L.cn,.int .i64 rt],.int .i64 4]) (by simp [results,Tryz.results179,go_sem, *]) rfl ?_;exact ⟨rfl,KF.out⟩
   | true=>
    go_upto_region 8 with (go_at_call 187;refine (AV.out _ (E2.out.trans (exx))).mono ?_;rintro e w3 ⟨rfl,hb3⟩)
    have O3:=Lib.hid (O2.out.ext hb3);have E3:=Lib.hid (E2.out.trans hb3);have d33:=(hb3.cell zd 3).trans d3;have d43:=(hb3.cell zd 4).trans d4;have zd3:=cell_lt d33;clear d2 d3 d4 zd hb3 AV;refine wp_region_seq (S:=fun W=>Ext w3 W) (R:=Ext) (by kernel_rfl) Ext.refl ?_ ?_
    · exact exx
    refine' tkL 0 rfl ?h0_1550 ?_
    case h0_1550=>(intro w hSw;(have d3':=(hSw.cell zd3 3).trans d33;obtain ⟨l0,l1,l2,l3,l4',l5,l6,lz⟩:=O3.out.ext hSw);go_simp;try with_reducible rfl)
    refine layy ?_;refine' tkL 1 rfl ?h1_1551 ?_
    case h1_1551=>(intro w hSw;(have d3':=(hSw.cell zd3 3).trans d33;obtain ⟨l0,l1,l2,l3,l4',l5,l6,lz⟩:=O3.out.ext hSw);go_simp;try with_reducible rfl)
    refine layy ?_;refine' tkL 2 rfl ?h2_1552 ?_
    case h2_1552=>(intro w hSw;(have d3':=(hSw.cell zd3 3).trans d33;obtain ⟨l0,l1,l2,l3,l4',l5,l6,lz⟩:=O3.out.ext hSw);go_simp;try with_reducible rfl)
    refine layy ?_;refine' tkL 4 rfl ?h4_1553 ?_
    case h4_1553=>(intro w hSw;(have d3':=(hSw.cell zd3 3).trans d33;obtain ⟨l0,l1,l2,l3,l4',l5,l6,lz⟩:=O3.out.ext hSw);go_simp;try with_reducible rfl)
    refine layy ?_;refine' tkL 5 rfl ?h5_1554 ?_
    case h5_1554=>(intro w hSw;(have d3':=(hSw.cell zd3 3).trans d33;obtain ⟨l0,l1,l2,l3,l4',l5,l6,lz⟩:=O3.out.ext hSw);go_simp;try with_reducible rfl)
    refine layy ?_;refine wpAnyR_do1 3 (fun u w''=>∃ g,u = .slice (some ⟨g,0,none⟩) n4 n4 ∧ Ext w3 w'' ∧ SliceAt w'' (some ⟨g,0,none⟩) n4 (Hp.upto n4)) rfl (by kernel_rfl) (by rfl) ?run3 ?vs3 ?next3
    case run3=>
     intro w' hE hS;refine .inl ⟨166,#[.int .i64 n4],by go_simp,(NM.out _).mono ?_⟩;rintro e w'' ⟨g,rfl,hS',hE'⟩;exact ⟨_,rfl,g,rfl,((Ext.drew (Ext.refl w3)).trans hE).trans hE',hS'⟩
    case vs3=>
     rintro u w'' ⟨g,_,hE,_⟩ W hW;exact hE.trans hW
    case next3=>
    rintro u w4 ⟨g,rfl,hE4,hS4⟩;have HS4:=Lib.hid hS4;have E4:=Lib.hid (E3.out.trans hE4);have O4:=Lib.hid (O3.out.ext hE4);have d34:=(hE4.cell zd3 3).trans d33;have d44:=(hE4.cell zd3 4).trans d43;have zd4:=cell_lt d34;clear hS4 hE4 d33 d43 zd3 O3 E3 O2 E2;refine layy ?_;refine' tkR 6 (v:=.bool bb) rfl (Or.inr ⟨by rfl,189,_, ?hx6_1555, ?hy6_1555⟩) ?rest6_1555
    case hx6_1555=>(intro w hSw;go_simp;try with_reducible rfl)
    case hy6_1555=>exact fun w hE=>(AI.out _ (E4.out.trans hE) g (HS4.out.ext hE)).mono (fun _ _ h=>⟨h.1,h.2,Ext.trans hE h.2⟩)
    refine layy ?_;refine' tkL 7 rfl ?h7_1556 ?_
    case h7_1556=>(intro w _;go_simp;try with_reducible rfl)
    refine layy ?_;refine' tkL 8 rfl ?h8_1557 ?_
    case h8_1557=>(intro w _;go_simp;try with_reducible rfl)
    refine layy ?_;refine wpAnyR_done (by kernel_rfl) ?_ _;intro x5 _ Ex5;have E5:=Lib.hid (E4.out.trans Ex5);have O5:=Lib.hid (O4.out.ext Ex5);have d35:=(Ex5.cell zd4 3).trans d34;have d45:=(Ex5.cell zd4 4).trans d44;have zd5:=cell_lt d35;clear d34 d44 zd4 O4 E4 Ex5 AI HS4
    cases bb with
    | false=>
     have er:res=4:=by rw [HE0.out,← HL.out];simp
     subst er;go_upto_region 10 with fail
     have OF:=Lib.hid (Own7.set (d0:=.slice L.ps n1 L.cs) (d1:=.slice L.po n2 L.co) (d2:=.slice L.ps n1 L.cs) (d3:=.slice L.po n2 L.co) (d4:=.slice L.pe n3 L.ce) (d5:=.slice L.pn n4 L.cn) (d6:=.int .i64 rt) O5.out);have KF:=Lib.hid (((Own7.setBut (W:=x5) (g:=gl) (d0:=.slice L.ps n1 L.cs) (d1:=.slice L.po n2 L.co) (d2:=.slice L.ps n1 L.cs) (d3:=.slice L.po n2 L.co) (d4:=.slice L.pe n3 L.ce) (d5:=.slice L.pn n4 L.cn) (d6:=.int .i64 rt))).toExt E5.out (fun b hb=>by rw [List.mem_singleton.1 hb];exact GL.out));obtain ⟨l0,l1,l2,l3,l4',l5,l6,lz⟩:=O5.out
     go_wp2_with fail
     clear l0 l1 l2 l3 l4' l5 l6 lz;obtain ⟨l0,l1,l2,l3,l4',l5,l6,lz⟩:=OF.out;refine bodyPost_ret (v:=.tuple #[.agg #[.slice L.ps n1 L.cs,.slice L.po n2 L.co,.slice L.ps n1 L.cs,.slice L.po n2 L.co,.slice L.pe n3 L.ce,.slice L.pn n4 L.cn,.int .i64 rt],.int .i64 4]) (by simp [results,Tryz.results179,go_sem, *]) rfl ?_;exact ⟨rfl,KF.out⟩
    | true=>
     obtain ⟨l0,l1,l2,l3,l4',l5,l6,lz⟩:=O5.out
     cases bc with
     | false=>
      have er:res=4:=by rw [HE0.out,← HL.out];simp
      subst er;go_upto_region 10 with (go_at_call 191;refine (KD.out _ (E5.out.trans (exx))).mono ?_;rintro e w6 ⟨rfl,hb6⟩)
      have O6:=Lib.hid (O5.out.ext hb6);have E6:=Lib.hid (E5.out.trans hb6);clear l0 l1 l2 l3 l4' l5 l6 lz;have OF:=Lib.hid (Own7.set (d0:=.slice L.ps n1 L.cs) (d1:=.slice L.po n2 L.co) (d2:=.slice L.ps n1 L.cs) (d3:=.slice L.po n2 L.co) (d4:=.slice L.pe n3 L.ce) (d5:=.slice L.pn n4 L.cn) (d6:=.int .i64 rt) O6.out);have KF:=Lib.hid (((Own7.setBut (W:=w6) (g:=gl) (d0:=.slice L.ps n1 L.cs) (d1:=.slice L.po n2 L.co) (d2:=.slice L.ps n1 L.cs) (d3:=.slice L.po n2 L.co) (d4:=.slice L.pe n3 L.ce) (d5:=.slice L.pn n4 L.cn) (d6:=.int .i64 rt))).toExt E6.out (fun b hb=>by rw [List.mem_singleton.1 hb];exact GL.out));obtain ⟨l0,l1,l2,l3,l4',l5,l6,lz⟩:=O6.out
      go_wp2_with fail
      clear l0 l1 l2 l3 l4' l5 l6 lz;obtain ⟨l0,l1,l2,l3,l4',l5,l6,lz⟩:=OF.out;refine bodyPost_ret (v:=.tuple #[.agg #[.slice L.ps n1 L.cs,.slice L.po n2 L.co,.slice L.ps n1 L.cs,.slice L.po n2 L.co,.slice L.pe n3 L.ce,.slice L.pn n4 L.cn,.int .i64 rt],.int .i64 4]) (by simp [results,Tryz.results179,go_sem, *]) rfl ?_;exact ⟨rfl,KF.out⟩
     | true=>
      have er:res=0:=by rw [HE0.out,← HL.out];simp
      subst er;go_upto_region 11 with (go_at_call 191;refine (KD.out _ (E5.out.trans (exx))).mono ?_;rintro e w6 ⟨rfl,hb6⟩)
      have O6:=Lib.hid (O5.out.ext hb6);have E6:=Lib.hid (E5.out.trans hb6);clear l0 l1 l2 l3 l4' l5 l6 lz;have OF:=Lib.hid (Own7.set (d0:=.slice L.ps n1 L.cs) (d1:=.slice L.po n2 L.co) (d2:=.slice L.ps n1 L.cs) (d3:=.slice L.po n2 L.co) (d4:=.slice L.pe n3 L.ce) (d5:=.slice L.pn n4 L.cn) (d6:=.int .i64 rt) O6.out);have KF:=Lib.hid (((Own7.setBut (W:=w6) (g:=gl) (d0:=.slice L.ps n1 L.cs) (d1:=.slice L.po n2 L.co) (d2:=.slice L.ps n1 L.cs) (d3:=.slice L.po n2 L.co) (d4:=.slice L.pe n3 L.ce) (d5:=.slice L.pn n4 L.cn) (d6:=.int .i64 rt))).toExt E6.out (fun b hb=>by rw [List.mem_singleton.1 hb];exact GL.out));obtain ⟨l0,l1,l2,l3,l4',l5,l6,lz⟩:=O6.out
      go_wp2_with fail
      clear l0 l1 l2 l3 l4' l5 l6 lz;obtain ⟨l0,l1,l2,l3,l4',l5,l6,lz⟩:=OF.out;refine bodyPost_ret (v:=.tuple #[.agg #[.slice L.ps n1 L.cs,.slice L.po n2 L.co,.slice L.ps n1 L.cs,.slice L.po n2 L.co,.slice L.pe n3 L.ce,.slice L.pn n4 L.cn,.int .i64 rt],.int .i64 0]) (by simp [results,Tryz.results179,go_sem, *]) rfl ?_;exact ⟨rfl,KF.out⟩
open Go.RowKit Go.Maps
def ClPost (w:World) (d:Nd.Dia) (e:Ending) (w':World):Prop:=
 ∃ M:DgL,e = .returned (dgV M d.sizes.length d.order.length d.clean.2.ends.length d.clean.2.nodes.length d.clean.1) ∧ DgRd w' M d.sizes d.order d.clean.2.ends d.clean.2.nodes ∧ Ext w w' ∧ ∀ b ∈ M.blocks,w.heap.size ≤ b ∧ b < w'.heap.size
theorem MkSt.base {wa wb w:World} {i:Mkr} {E:List (Int × Int)} {N:List (Int × List Int)} {pe pn:Option Addr} {ce cn:Nat} {K:List (Nat × Nat)} (h:MkSt wb w i E N pe ce pn cn K) (k:Ext wa wb):MkSt wa w i E N pe ce pn cn K:=
 { h with
   ext:=k.trans h.ext
   lo:=fun b hb=>⟨Nat.le_trans k.le (h.lo b hb).1,(h.lo b hb).2⟩ }
theorem MkSt.root {wb w:World} {i:Mkr} {E:List (Int × Int)} {N:List (Int × List Int)} {pe pn:Option Addr} {ce cn:Nat} {K:List (Nat × Nat)} (h:MkSt wb w i E N pe ce pn cn K) (v:Value):MkSt wb (w.setCell ⟨i.gm,6,none⟩ v) { i with v6:=v } E N pe ce pn cn K:=by
 have k:But [i.gm] w (w.setCell ⟨i.gm,6,none⟩ v):=(But.refl _ _).setCell (.inl (by simp)) _
 have gm:=h.lo i.gm (.inl (MkSt.in_m _ _ _))
 exact
  { ext:=k.toExt h.ext fun b hb=>by rw [List.mem_singleton.1 hb];exact gm.1
    c:=h.c.set6 v
    e:=h.e.but k (by simpa using h.nd.1.symm) fun b hb hm=>(h.ndp b hb).1 (List.mem_singleton.1 hm)
    n:=h.n.but k (by simpa using h.nd.2.1.symm) (fun b hb hm=>(h.ndn b hb).1 (List.mem_singleton.1 hm)) (fun b hb hm=>(h.ndk b hb).1 (List.mem_singleton.1 hm))
    lo:=fun b hb=>⟨(h.lo b hb).1,Nat.lt_of_lt_of_le (h.lo b hb).2 k.size⟩
    nd:=h.nd
    ndp:=h.ndp
    ndn:=h.ndn
    ndk:=h.ndk }
def mkL (p2:Option Addr) (c2:Nat) (p3:Option Addr) (c3:Nat) (pe:Option Addr) (ce:Nat) (pn:Option Addr) (cn:Nat) (K:List (Nat × Nat)):DgL:=⟨p2,c2,p3,c3,pe,ce,pn,cn,K.map fun k=>(some ⟨k.1,0,none⟩,k.2)⟩
theorem MkSt.rd {wb w:World} {i:Mkr} {E:List (Int × Int)} {N:List (Int × List Int)} {pe pn p2 p3:Option Addr} {ce cn c2 c3:Nat} {K:List (Nat × Nat)} {z o:List Int} (h:MkSt wb w i E N pe ce pn cn K) (s2:SliceAt w p2 c2 z) (s3:SliceAt w p3 c3 o):DgRd w (mkL p2 c2 p3 c3 pe ce pn cn K) z o E N:=by
 refine ⟨s2,s3,h.e.er.rd, ?_,by simp [mkL,h.n.kl],fun j q k hq hk=>?_⟩
 · have:=h.n.nr.rd;unfold mkL;rw [List.zipWith_map_right];exact this
 · unfold mkL at hk;simp only at hk;rw [List.getElem?_map,Option.map_eq_some_iff] at hk;obtain ⟨k',hk',rfl⟩:=hk;exact h.n.ks j q k' hq hk'
theorem mkL_blk {i:Mkr} {pe pn p2 p3:Option Addr} {ce cn c2 c3:Nat} {K:List (Nat × Nat)} {b:Nat} (hb:b ∈ (mkL p2 c2 p3 c3 pe ce pn cn K).blocks):b ∈ blk p2 ∨ b ∈ blk p3 ∨ b ∈ i.dyn pe pn ∨ b ∈ K.map Prod.fst:=by
 simp only [mkL,DgL.blocks,List.mem_append] at hb
 rcases hb with (((hb | hb) | hb) | hb) | hb
 · exact .inl hb
 · exact .inr (.inl hb)
 · exact .inr (.inr (.inl (MkSt.in_pe _ _ _ hb)))
 · exact .inr (.inr (.inl (MkSt.in_pn _ _ _ hb)))
 · rw [List.mem_flatMap] at hb;obtain ⟨k,hk,hb⟩:=hb;obtain ⟨k',hk',rfl⟩:=List.mem_map.1 hk;have:b=k'.1:=by simpa [blk] using hb
   rw [this];exact .inr (.inr (.inr (List.mem_map.2 ⟨k',hk',rfl⟩)))
theorem CnSt.start {wb w5:World} {i:Mkr} {L:DgL} {d:Nd.Dia} {db:Nat} {t1 t2 t3:TypeId} (M:MkSt wb w5 i [] [] none 0 none 0 []) (D:LsAt w5 db L d.sizes.length d.order.length d.ends.length d.nodes.length d.root) (h1:wb.heap.size ≤ db) (h2:db ≠ i.gm ∧ db ≠ i.ge ∧ db ≠ i.gn) :
    CnSt wb ((((w5.alloc (.cells #[.pointer (some ⟨i.gm,0,none⟩)] t1)).alloc (.map #[] 0)).alloc (.cells #[.map (some (w5.heap.size+1))] t2)).alloc (.cells #[.func (.func 196) #[] #[.pointer (some ⟨w5.heap.size,0,none⟩),.pointer (some ⟨db,0,none⟩),.pointer (some ⟨w5.heap.size+1+1,0,none⟩),.pointer (some ⟨w5.heap.size+1+1+1,0,none⟩)]] t3))
     ⟨w5.heap.size,db,w5.heap.size+1+1,w5.heap.size+1+1+1,w5.heap.size+1⟩ i L d ⟨[],[],[]⟩ none 0 none 0 []:=by
  have zd:=cell_lt D.c0;have le:=M.ext.le;have k:Ext w5 ((((w5.alloc (.cells #[.pointer (some ⟨i.gm,0,none⟩)] t1)).alloc (.map #[] 0)).alloc (.cells #[.map (some (w5.heap.size+1))] t2)).alloc (.cells #[.func (.func 196) #[] #[.pointer (some ⟨w5.heap.size,0,none⟩),.pointer (some ⟨db,0,none⟩),.pointer (some ⟨w5.heap.size+1+1,0,none⟩),.pointer (some ⟨w5.heap.size+1+1+1,0,none⟩)]] t3)):=exx;have lm:=(M.lo i.gm (.inl (MkSt.in_m _ _ _))).2;have ln:=(M.lo i.gn (.inl (MkSt.in_n _ _ _))).2;have l3:=(M.lo i.ge (.inl (MkSt.in_e _ _ _))).2
  exact
   { sm:=M.ext' k
     m:=by go_simp
     d:=D.ext k
     k:=by go_simp
     f:=by unfold Cn.fv;go_simp
     map:=by
      have:=(MapIAt.made (P:=Tryz.prog) (w5.alloc (.cells #[.pointer (some ⟨i.gm,0,none⟩)] t1)))
      rw [show (w5.alloc (.cells #[.pointer (some ⟨i.gm,0,none⟩)] t1)).heap.size=w5.heap.size+1 by simp] at this;exact (this.ext (Ext.alloc (Ext.refl _) _)).ext (Ext.alloc (Ext.refl _) _)
     lo:=fun b hb=>by
      simp [Cn.fixed] at hb;simp;omega
     fx:=fun b hb=>by
      simp [Cn.fixed] at hb;simp [Mkr.dyn,blk];omega
     gx:=by simp [Cn.fixed];omega }
set_option maxRecDepth 100000 in
set_option maxHeartbeats 16000000 in
theorem nClean {w:World} {L:DgL} {d:Nd.Dia} (h:DgRd w L d.sizes d.order d.ends d.nodes) (hin:CnIn d) (hr:d.Ref d.root d.nodes.length) (hz:d.sizes.length ≤ 1000000) (hol:d.order.length ≤ 1000000) :
    Calls Tryz.prog 181 #[lsV L d.sizes.length d.order.length d.ends.length d.nodes.length d.root] w (ClPost w d):=by
  have NM:=Lib.hid (fun W (hE:Ext w W)=>newMaker_any (h.s.ext hE) (h.o.ext hE) hz hol);have H:=Lib.hid h;have HIN:=Lib.hid hin;have HR:=Lib.hid hr;have mixed:Tryz.prog.follows .mixedOrders=true:=by kernel_rfl
  have hmm:=@run_makeMap Tryz.prog;obtain ⟨n1,h1⟩:∃ n,d.sizes.length=n:=⟨_,rfl⟩
  obtain ⟨n2,h2⟩:∃ n,d.order.length=n:=⟨_,rfl⟩
  obtain ⟨n3,h3⟩:∃ n,d.ends.length=n:=⟨_,rfl⟩
  obtain ⟨n4,h4⟩:∃ n,d.nodes.length=n:=⟨_,rfl⟩
  obtain ⟨rt,h5⟩:∃ n,d.root=n:=⟨_,rfl⟩
  have HQ:=Lib.hid (show d.sizes.length=n1 ∧ d.order.length=n2 ∧ d.ends.length=n3 ∧ d.nodes.length=n4 ∧ d.root=rt from ⟨h1,h2,h3,h4,h5⟩);rw [h1,h2] at NM;rw [h1,h2,h3,h4,h5];clear h hin hr h1 h2 h3 h4 h5 hz hol;unfold lsV;go_enter Tryz.func181,Tryz.ntmps181;go_upto_region 1 with fail
  refine cut_world (F:=fun W=>Hid (Ext w W) ∧ Hid (LsAt W w.heap.size L n1 n2 n3 n4 rt) ∧ Hid (Own5 W (w.heap.size+1) (.slice none 0 0) (.slice none 0 0) (.slice none 0 0) (.slice none 0 0) (.int .i64 0))) ⟨Lib.hid (exx),Lib.hid ⟨by go_simp,by go_simp,by go_simp,by go_simp,by go_simp,by go_simp,by go_simp⟩,Lib.hid ⟨by go_simp,by go_simp,by go_simp,by go_simp,by go_simp,fun o=>by go_simp⟩⟩ ?_;intro w1 ⟨E1,D1,O1⟩;generalize hgo:w.heap.size+1=go at O1 ⊢;generalize hdb:w.heap.size=db at D1 ⊢;have DB:=Lib.hid (show w.heap.size ≤ db ∧ w.heap.size ≤ go from ⟨by omega,by omega⟩);clear hgo hdb;have d0:=D1.out.c0;have d1:=D1.out.c1;have d6:=D1.out.c6;go_upto_region 5 with (go_at_call 195;refine (NM.out _ (E1.out.trans (exx))).mono ?_;rintro e w2 ⟨v,rfl,wm,hEm,i,p2,c2,p3,c3,hv,hM,hv2,hv3,hv6,hS2,hS3,hBB⟩;cases hv)
  have E2:=Lib.hid (hEm.trans hM.ext);have GO:=Lib.hid (show go < wm.heap.size from Nat.lt_of_lt_of_le (cell_lt O1.out.a0) hEm.le);have DD:=Lib.hid (show db < wm.heap.size from Nat.lt_of_lt_of_le (cell_lt d0) hEm.le);have HMM:=Lib.hid hM;have EM:=Lib.hid (E1.out.trans hEm);have D2:=Lib.hid (D1.out.ext E2.out);have O2:=Lib.hid (O1.out.ext E2.out);have HS2:=Lib.hid hS2;have HS3:=Lib.hid hS3;have HBB:=Lib.hid hBB;have HV:=Lib.hid (show i.v2 = .slice p2 d.sizes.length c2 ∧ i.v3 = .slice p3 d.order.length c3 from ⟨hv2,hv3⟩);refine cut_world (F:=fun W=>Hid (CnSt w W ⟨w2.heap.size,db,w2.heap.size+1+1,w2.heap.size+1+1+1,w2.heap.size+1⟩ i L d ⟨[],[],[]⟩ none 0 none 0 []) ∧ Hid (Ext w2 W)) ⟨Lib.hid (CnSt.start (hM.base EM.out) (by have:=D2.out;obtain ⟨h1,h2,h3,h4,h5⟩:=HQ.out;rw [h1,h2,h3,h4,h5];exact this) DB.out.1 ?ne),Lib.hid (exx)⟩ ?_
  case ne=>
   have h1:=(hM.lo i.gm (.inl (MkSt.in_m _ _ _))).1;have h2:=(hM.lo i.ge (.inl (MkSt.in_e _ _ _))).1;have h3:=(hM.lo i.gn (.inl (MkSt.in_n _ _ _))).1;have h4:=DD.out;omega
  clear d0 d1 d6 hEm hM hv2 hv3 hv6 hS2 hS3 hBB;intro w3 ⟨C3,E3⟩;have O3:=Lib.hid ((O2.out.ext E3.out).ext (Ext.drew (Ext.refl w3)));have CALL:=Lib.hid (cn_any H.out HIN.out d.nodes.length d.root HR.out (Nat.le_refl _) w3.drew ⟨[],[],[]⟩ none 0 none 0 [] (C3.out.ext' (Ext.drew (Ext.refl w3))) (Nd.ClIn.start d));have SZ:=Lib.hid E3.out.le;generalize w2.heap.size+1+1+1=fb at C3 CALL ⊢;generalize w2.heap.size+1+1=kb at C3 CALL ⊢;generalize hgk:w2.heap.size+1=gk at C3 CALL ⊢;have GK:=Lib.hid (show w2.heap.size ≤ gk from by omega);clear hgk;generalize w2.heap.size=mb at C3 CALL ⊢;rw [show d.cfrom (d.nodes.length+1) d.root ⟨[],[],[]⟩=d.clean from rfl] at CALL;have m3:=C3.out.m;have f3:=C3.out.f;have r3:=C3.out.d.c6;rw [HQ.out.2.2.2.2] at r3 CALL;unfold Cn.fv at f3;unfold Cn.args at CALL;simp only at m3 f3 r3 CALL;refine wp_region_seq (S:=fun W=>W.cell? ⟨mb,0,none⟩=some (.pointer (some ⟨i.gm,0,none⟩)) ∧ W.cell? ⟨fb,0,none⟩=some (.func (.func 196) #[] #[.pointer (some ⟨mb,0,none⟩),.pointer (some ⟨db,0,none⟩),.pointer (some ⟨kb,0,none⟩),.pointer (some ⟨fb,0,none⟩)]) ∧ W.cell? ⟨db,6,none⟩=some (.int .i64 rt)) (R:=Eq) (by kernel_rfl) (fun _=>rfl) ?_ ?_
  · exact ⟨m3,f3,r3⟩
  refine' wpAnyR_take (i:=0) (v:=?v0_1558) (fun _=>rfl) (fun _ _ _ h k=>h.trans k) rfl (by kernel_rfl) (by kernel_rfl) (by kernel_rfl) (fun _ _ _ h=>h) (Or.inl (Or.inl ⟨by rfl, ?hy0_1558⟩)) ?rest0_1558
  case hy0_1558=>(intro w hSw;(obtain ⟨s1,s2,s3⟩:=hSw);go_simp;try with_reducible rfl)
  refine layy ?_;refine' wpAnyR_take (i:=1) (v:=?v1_1559) (fun _=>rfl) (fun _ _ _ h k=>h.trans k) rfl (by kernel_rfl) (by kernel_rfl) (by kernel_rfl) (fun _ _ _ h=>h) (Or.inl (Or.inl ⟨by rfl, ?hy1_1559⟩)) ?rest1_1559
  case hy1_1559=>(intro w hSw;(obtain ⟨s1,s2,s3⟩:=hSw);go_simp;try with_reducible rfl)
  refine layy ?_;refine' wpAnyR_take (i:=2) (v:=?v2_1560) (fun _=>rfl) (fun _ _ _ h k=>h.trans k) rfl (by kernel_rfl) (by kernel_rfl) (by kernel_rfl) (fun _ _ _ h=>h) (Or.inl (Or.inl ⟨by rfl, ?hy2_1560⟩)) ?rest2_1560
  case hy2_1560=>(intro w hSw;(obtain ⟨s1,s2,s3⟩:=hSw);go_simp;try with_reducible rfl)
  refine layy ?_;refine' wpAnyR_take (i:=3) (v:=?v3_1561) (fun _=>rfl) (fun _ _ _ h k=>h.trans k) rfl (by kernel_rfl) (by kernel_rfl) (by kernel_rfl) (fun _ _ _ h=>h) (Or.inl (Or.inl ⟨by rfl, ?hy3_1561⟩)) ?rest3_1561
  case hy3_1561=>(intro w hSw;(obtain ⟨s1,s2,s3⟩:=hSw);go_simp;try with_reducible rfl)
  refine layy ?_;refine' wpAnyR_take (i:=4) (v:=?v4_1562) (fun _=>rfl) (fun _ _ _ h k=>h.trans k) rfl (by kernel_rfl) (by kernel_rfl) (by kernel_rfl) (fun _ _ _ h=>h) (Or.inl (Or.inl ⟨by rfl, ?hy4_1562⟩)) ?rest4_1562
  case hy4_1562=>(intro w hSw;(obtain ⟨s1,s2,s3⟩:=hSw);go_simp;try with_reducible rfl)
  refine layy ?_;refine wpAnyE_call 5 (f:=196) (args:=#[.int .i64 rt,.pointer (some ⟨mb,0,none⟩),.pointer (some ⟨db,0,none⟩),.pointer (some ⟨kb,0,none⟩),.pointer (some ⟨fb,0,none⟩)]) rfl (by kernel_rfl) (by rfl) ?run5 ?call5
  case run5=>go_simp
  refine CALL.out.mono ?_;rintro e w4 ⟨rfl,pe,ce,pn,cn,K,C4,B4,Y4,Z4⟩;have C4:=Lib.hid C4;have B4:=Lib.hid B4;have E3d:=Lib.hid (E3.out.trans (Ext.drew (Ext.refl w3)));have LO:=Lib.hid (show ∀ b,b ∈ gk :: i.dyn none none → wm.heap.size ≤ b from fun b hb=>by
   rcases List.mem_cons.1 hb with e | hb
   · have h1:=SZ.out;have h2:=HMM.out.ext.le;have h3:=GK.out;omega
   · exact (HMM.out.lo b (.inl hb)).1)
  have O4:=Lib.hid (O3.out.but B4.out (fun hm=>by have:=LO.out _ hm;have:=GO.out;omega));have LOM:=Lib.hid (show ∀ b ∈ (mkL p2 c2 p3 c3 pe ce pn cn K).blocks,wm.heap.size ≤ b ∧ b < w4.heap.size from fun b hb=>by
   have s1:=E3d.out.le;have s2:=B4.out.size;have s3:=HMM.out.ext.le
   rcases mkL_blk (i:=i) hb with hb | hb | hb | hb
   · have:=HBB.out b (.inl hb);omega
   · have:=HBB.out b (.inr hb);omega
   · have h1:=(C4.out.sm.lo b (.inl hb)).2
     rcases Y4 b hb with hb | hb
     · have:=(HMM.out.lo b (.inl hb)).1;omega
     · omega
   · have h1:=(C4.out.sm.lo b (.inr hb)).2
     rcases Z4 b hb with hb | hb
     · simp at hb
     · omega)
  have GM:=Lib.hid (show wm.heap.size ≤ i.gm from (HMM.out.lo i.gm (.inl (MkSt.in_m _ _ _))).1);have FX:=Lib.hid (show ∀ b,b ∈ [mb,db,kb,fb] → b ≠ i.gm from fun b hb e=>(C4.out.fx b (.inl hb)).1 (by rw [e];exact MkSt.in_m _ _ _));have m4:=C4.out.m;have f4:=C4.out.f;have r4:=C4.out.d.c6;rw [HQ.out.2.2.2.2] at r4;unfold Cn.fv at f4;simp only at m4 f4 r4;have S24:=Lib.hid ((HS2.out.ext E3d.out).but B4.out (fun b o e hm=>by
   have h1:=HBB.out b (.inl (mem_blk e))
   rcases List.mem_cons.1 hm with h | h
   · simp only at h;have:=GK.out;omega
   · simp [Mkr.dyn,blk] at h;omega))
  have S34:=Lib.hid ((HS3.out.ext E3d.out).but B4.out (fun b o e hm=>by
   have h1:=HBB.out b (.inr (mem_blk e))
   rcases List.mem_cons.1 hm with h | h
   · simp only at h;have:=GK.out;omega
   · simp [Mkr.dyn,blk] at h;omega))
  refine ⟨.int .i64 d.clean.1,rfl,⟨m4,f4,r4⟩, ?_⟩;clear Y4 Z4 m3 f3 r3 CALL C3;refine layy ?_;refine' wpAnyR_take (i:=6) (v:=?v6_1563) (fun _=>rfl) (fun _ _ _ h k=>h.trans k) rfl (by kernel_rfl) (by kernel_rfl) (by kernel_rfl) (fun _ _ _ h=>h) (Or.inl (Or.inl ⟨by rfl, ?hy6_1563⟩)) ?rest6_1563
  case hy6_1563=>(intro w _;go_simp;try with_reducible rfl)
  refine layy ?_;refine' wpAnyR_take (i:=7) (v:=?v7_1564) (fun _=>rfl) (fun _ _ _ h k=>h.trans k) rfl (by kernel_rfl) (by kernel_rfl) (by kernel_rfl) (fun _ _ _ h=>h) (Or.inl (Or.inl ⟨by rfl, ?hy7_1564⟩)) ?rest7_1564
  case hy7_1564=>(intro w _;go_simp;try with_reducible rfl)
  refine layy ?_;refine' wpAnyR_take (i:=8) (v:=?v8_1565) (fun _=>rfl) (fun _ _ _ h k=>h.trans k) rfl (by kernel_rfl) (by kernel_rfl) (by kernel_rfl) (fun _ _ _ h=>h) (Or.inl (Or.inl ⟨by rfl, ?hy8_1565⟩)) ?rest8_1565
  case hy8_1565=>(intro w _;go_simp;try with_reducible rfl)
  refine layy ?_;have c6:=C4.out.sm.c.c6;have z6:=C4.out.sm.c.z 6;have R5:=Lib.hid (C4.out.sm.root (.int .i64 d.clean.1));have B5:But [i.gm] w4 (w4.setCell ⟨i.gm,6,none⟩ (.int .i64 d.clean.1)):=(But.refl _ _).setCell (.inl (by simp)) _;have ngm:∀ b,b ∈ [mb,db,kb,fb] → b ∉ [i.gm]:=fun b hb hm=>FX.out b hb (List.mem_singleton.1 hm)
  have m5:=(B5.cell (cell_lt m4) (ngm mb (by simp)) 0).trans m4;have f5:=(B5.cell (cell_lt f4) (ngm fb (by simp)) 0).trans f4;have r5:=(B5.cell (cell_lt r4) (ngm db (by simp)) 6).trans r4;have O5:=Lib.hid (O4.out.but B5 (fun hm=>by have:=GO.out;have:=GM.out;rw [List.mem_singleton.1 hm] at *;omega));have S25:=Lib.hid (S24.out.but B5 (fun b o e hm=>(HBB.out b (.inl (mem_blk e))).2.2.1 (List.mem_singleton.1 hm)));have S35:=Lib.hid (S34.out.but B5 (fun b o e hm=>(HBB.out b (.inr (mem_blk e))).2.2.1 (List.mem_singleton.1 hm)));have HB5:=Lib.hid B5;refine wpAnyE_put 9 (w':=w4.setCell ⟨i.gm,6,none⟩ (.int .i64 d.clean.1)) rfl (by kernel_rfl) (by rfl) ?run9 ⟨m5,f5,r5⟩ ?next9
  case run9=>go_simp
  clear B5 c6 z6 m4 f4 r4 ngm f5 r5 S24 S34 O3 O4;refine layy ?_;refine wpAnyR_done (by kernel_rfl) ?_ _;intro w5 e5 _;rw [e5] at m5 R5 O5 S25 S35 HB5;clear e5;have q2:=R5.out.c.c2;have q3:=R5.out.c.c3;have q4:=R5.out.c.c4;have q5:=R5.out.c.c5;have q6:=R5.out.c.c6;simp only [HV.out.1,HV.out.2] at q2 q3 q4 q5 q6;rw [HQ.out.1] at q2;rw [HQ.out.2.1] at q3;obtain ⟨o0,o1,o2,o3,o4,oz⟩:=O5.out;have O6:=Lib.hid (Own5.set (d0:=.slice p2 n1 c2) (d1:=.slice p3 n2 c3) (d2:=.slice pe d.clean.2.ends.length ce) (d3:=.slice pn d.clean.2.nodes.length cn) (d4:=.int .i64 d.clean.1) O5.out);have K6:=Lib.hid (show But [go] w5 (((((w5.setCell ⟨go,0,none⟩ (.slice p2 n1 c2)).setCell ⟨go,1,none⟩ (.slice p3 n2 c3)).setCell ⟨go,2,none⟩ (.slice pe d.clean.2.ends.length ce)).setCell ⟨go,3,none⟩ (.slice pn d.clean.2.nodes.length cn)).setCell ⟨go,4,none⟩ (.int .i64 d.clean.1)) from (((((But.refl _ _).setCell (.inl (by simp)) _).setCell (.inl (by simp)) _).setCell (.inl (by simp)) _).setCell (.inl (by simp)) _).setCell (.inl (by simp)) _)
  go_wp2_with fail
  clear o0 o1 o2 o3 o4 oz;obtain ⟨a0,a1,a2,a3,a4,-⟩:=O6.out;refine bodyPost_ret (v:=.agg #[.slice p2 n1 c2,.slice p3 n2 c3,.slice pe d.clean.2.ends.length ce,.slice pn d.clean.2.nodes.length cn,.int .i64 d.clean.1]) (by simp [results,Tryz.results181,go_sem, *]) rfl ?_;have D6:=(R5.out.rd S25.out S35.out).but K6.out (fun b hb hm=>by
   have:=(LOM.out b hm).1;have:=GO.out;rw [List.mem_singleton.1 hb] at *;omega)
  refine ⟨mkL p2 c2 p3 c3 pe ce pn cn K, ?_,D6,K6.out.toExt (R5.out.ext) (fun b hb=>by rw [List.mem_singleton.1 hb];exact DB.out.2),fun b hb=>?_⟩
  · rw [HQ.out.1,HQ.out.2.1];rfl
  · have h1:=LOM.out b hb;have h2:=HB5.out.size;have h3:=K6.out.size;have h4:=EM.out.le;omega
end Go.Proofs.YtdokmmhjmclmnaaGreat
