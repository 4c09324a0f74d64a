/- Part 32 of a proof. -/
import Derived.Test.YtdokmmhjmclmnaaGreatMU31
set_option linter.unusedSimpArgs false
set_option linter.unusedVariables false
set_option linter.unusedSectionVars false
set_option linter.unnecessarySimpa false
set_option maxHeartbeats 16000000
set_option maxRecDepth 100000
namespace Go.Proofs.YtdokmmhjmclmnaaGreat
open Go.Proofs.Tryz
variable {W' w w' w0 wb:World} {B a b bx c ca cap ce cn f g i j k lb m n qc:Nat} {choice e t x:Int} {A W fs ks l o z:List Int} {D T Y:List Nat} {p p2 pa pe pn q:Option Addr} {d:Hd} {S S':Hp.Hs} {r:Rd} {L:List Hp.Tl} {M:List (Nat × Int)} {s:Hp.Sc}
open Go.RowKit Go.Maps
theorem e5b (h:Hp.rd (Hp.upto n) j=some x):x=(j:Int)/\j < n:=by
 unfold Hp.rd Hp.upto at h
 rw [y7b] at h
 cases hr:(List.range n)[j]? with
 | none=>rw [hr] at h;simp at h
 | some k=>
  rw [hr] at h;obtain ⟨h1,h2⟩:=q5b.1 hr;simp at h2 h1;subst h2;exact ⟨by simpa using h.symm,h1⟩
theorem a5b {q:Int->Bool} {p:Nat->Bool} (h:∀ j,j < n->q (j:Int)=p j):(Hp.upto n).all q=(List.range n).all p:=by
 unfold Hp.upto
 rw [List.all_map]
 apply D5c.2
 simp only [A7c,D8c,Function.comp]
 exact ⟨fun k j hj=>by rw [<- h j hj];exact k j hj,fun k j hj=>by rw [show ((j:Nat):Int)=(j:Int) from rfl];exact (h j hj).trans (k j hj)⟩
structure Own7 (W:World) (g:Nat) (c0 c1 c2 c3 c4 c5 c6:Value):Prop where
 a0:W.cell? ⟨g,0,none⟩=some c0
 a1:W.cell? ⟨g,1,none⟩=some c1
 a2:W.cell? ⟨g,2,none⟩=some c2
 a3:W.cell? ⟨g,3,none⟩=some c3
 a4:W.cell? ⟨g,4,none⟩=some c4
 a5:W.cell? ⟨g,5,none⟩=some c5
 a6:W.cell? ⟨g,6,none⟩=some c6
 z:∀ o,W.frozen? ⟨g,o,none⟩=false
namespace Own7
variable {W W':World} {g:Nat} {c0 c1 c2 c3 c4 c5 c6 d0 d1 d2 d3 d4 d5 d6:Value}
theorem but (h:Own7 W g c0 c1 c2 c3 c4 c5 c6) {l:List Nat} (k:But l W W') (hg:g ∉ l):Own7 W' g c0 c1 c2 c3 c4 c5 c6:=by
 have z:=cell_lt h.a0
 exact ⟨(k.cell z hg 0).trans h.a0,(k.cell z hg 1).trans h.a1,(k.cell z hg 2).trans h.a2,(k.cell z hg 3).trans h.a3,(k.cell z hg 4).trans h.a4,(k.cell z hg 5).trans h.a5,(k.cell z hg 6).trans h.a6,fun o=>(k.frozen z hg o).trans (h.z o)⟩
theorem ext (h:Own7 W g c0 c1 c2 c3 c4 c5 c6) (k:Ext W W'):Own7 W' g c0 c1 c2 c3 c4 c5 c6:=h.but (l:=[]) (But.E7a k) (by simp)
theorem set (h:Own7 W g c0 c1 c2 c3 c4 c5 c6):Own7 (((((((W.setCell ⟨g,0,none⟩ d0).setCell ⟨g,1,none⟩ d1).setCell ⟨g,2,none⟩ d2).setCell ⟨g,3,none⟩ d3).setCell ⟨g,4,none⟩ d4).setCell ⟨g,5,none⟩ d5).setCell ⟨g,6,none⟩ d6) g d0 d1 d2 d3 d4 d5 d6:=by
 obtain ⟨a0,a1,a2,a3,a4,a5,a6,z⟩:=h
 exact ⟨by simp [go_sem,a0],by simp [go_sem,a1],by simp [go_sem,a2],by simp [go_sem,a3],by simp [go_sem,a4],by simp [go_sem,a5],by simp [go_sem,a6],fun o=>by simp [go_sem,z]⟩
theorem e3a:But [g] W (((((((W.setCell ⟨g,0,none⟩ d0).setCell ⟨g,1,none⟩ d1).setCell ⟨g,2,none⟩ d2).setCell ⟨g,3,none⟩ d3).setCell ⟨g,4,none⟩ d4).setCell ⟨g,5,none⟩ d5).setCell ⟨g,6,none⟩ d6):=
 (((((((But.refl _ _).setCell (.inl (by simp)) _).setCell (.inl (by simp)) _).setCell (.inl (by simp)) _).setCell (.inl (by simp)) _).setCell (.inl (by simp)) _).setCell (.inl (by simp)) _).setCell (.inl (by simp)) _
end Own7
def lsZ:Value:=.agg #[.slice none 0 0,.slice none 0 0,.slice none 0 0,.slice none 0 0,.slice none 0 0,.slice none 0 0,.int .i64 0]
structure W4a (d:Nd.Dia) (L:DgL):Prop extends q7a d where
 el1:d.ends.length<=1000
 nl1:d.nodes.length<=1000
 ol:d.order.length<=1000000
 on:0 < d.order.length \/ L.po=none
 ends:∀ v ∈ d.ends,-9223372036854775808<=v.2/\v.2<=9223372036854775807
 vars:∀ q ∈ d.nodes,-9223372036854775808<=q.1/\q.1<=9223372036854775807
theorem o0a {L:DgL} {d:Nd.Dia} {v:Value} (h:DgRd w L d.sizes d.order d.ends d.nodes) (hN:W4a d L) (hv:(if Hp.A2a d.sizes d.order=0 then lsV L d.sizes.length d.order.length d.ends.length d.nodes.length d.root else lsZ)=v) :
    Calls prog 179 #[dgV L d.sizes.length d.order.length d.ends.length d.nodes.length d.root] w (Rt w (.tuple #[v,.int .i64 (F6a d)])):=by
  have CF:=hZ (fun W (hE:Ext w W)=>y9a (h.s.ext hE) (h.o.ext hE) hN.on hN.ol);have l4:=h.n.le;rw [A7a h.kl] at l4;have nl:=hN.nl1
  by_cases hfe:Hp.A2a d.sizes d.order=0
  case neg=>
   rw [H4c hfe] at hv;subst hv;unfold lsZ;have e:F6a d=Hp.A2a d.sizes d.order:=by unfold F6a;rw [H5c hfe]
   rw [e];have t0:(Hp.A2a d.sizes d.order != 0)=true:=by simpa using hfe
   have HF:=hZ hfe;clear h hN hfe e;unfold dgV DgL.cells;generalize Hp.A2a d.sizes d.order=fe at *;generalize d.sizes.length=n1 at *;generalize d.order.length=n2 at *;generalize d.ends.length=n3 at *;generalize d.nodes.length=n4 at *;generalize d.root=rt at *;go_enter func179,ntmps179
   go_wp2_with (go_at_call 121;refine m4_ (CF.out _ (exx)) fun w1 hb1 hc1 hf1 hs1=>?_;obtain ⟨hz1_0,hc1_0,hf1_0⟩:=c3_ hb1 w.heap.size;obtain ⟨hz1_1,hc1_1,hf1_1⟩:=c3_ hb1 (w.heap.size+1))
   refine bodyPost_ret (v:=.tuple #[.agg #[.slice none 0 0,.slice none 0 0,.slice none 0 0,.slice none 0 0,.slice none 0 0,.slice none 0 0,.int .i64 0],.int .i64 fe]) (by simp [results,results179,go_sem, *]) rfl ?_;exact ⟨rfl,exx⟩
  case pos=>
   rw [H5c hfe] at hv;subst hv;have e0:F6a d=if I2a d=true then 0 else 4:=by unfold F6a;rw [H4c (by omega)]
   rw [hfe] at CF;have fo:=(Hp.H8a hfe).1;have hz6:=fo.toFr.few;have AV:=hZ (fun (b:Bool) (hb:d.ends.all F0a=b) W (hE:Ext w W)=>nAllV (h.e.ext hE) (fun v hv=>⟨hN.f v hv,hN.ends v hv⟩) hb);have KD:=hZ (fun W (hE:Ext w W)=>h4b (h.ext hE) d.root d.nodes.length (-1) hN.root.1 (H0c _) (by have:=hN.el1;omega));have BR:=hZ (fun (i:Nat) (hi:i < d.nodes.length) W (hE:Ext w W)=>U9b (h.ext hE) hi (by have:=hN.el1;omega) hz6 hN.kids hN.vars);have HL:=hZ (S2b fo);have HB:=hZ (fun (b:Bool) (hb:(List.range d.nodes.length).all (N6a d)=b)=>(a5b (n:=d.nodes.length) (q:=fun x=>N6a d x.toNat) (p:=N6a d) (fun j _=>by simp)).trans hb);have hsz:=h.s.le;have hoz:=h.o.le;have tn:decide ((d.nodes.length:Int) > 6000)=false:=dF;have mixed:prog.follows .mixedOrders=true:=by kernel_rfl
   have HE0:=hZ e0;generalize F6a d=res at *;clear h hN hfe e0 fo;unfold dgV DgL.cells lsV at *;obtain ⟨ba,hba⟩:∃ ba,d.ends.all F0a=ba:=⟨_,rfl⟩
   obtain ⟨bb,hbb⟩:∃ bb,(List.range d.nodes.length).all (N6a d)=bb:=⟨_,rfl⟩
   obtain ⟨bc,hbc⟩:∃ bc,kidN d d.root d.nodes.length (-1)=bc:=⟨_,rfl⟩
   have AV:=hZ (AV.out ba hba);have HB:=hZ (HB.out bb hbb);rw [hba,hbb,hbc] at HL;rw [hbc] at KD;have NM:=hZ (fun W=>j7a (w:=W) (n:=d.nodes.length) nl);clear hba hbb hbc;generalize hlb:I2a d=lb at *;clear hlb;generalize d.sizes.length=n1 at *;generalize d.order.length=n2 at *;generalize d.ends.length=n3 at *;generalize d.nodes.length=n4 at *;generalize d.root=rt at *
   have AI:=hZ (fun W (hE:Ext w W) g (hS:SliceAt W (some ⟨g,0,none⟩) n4 (Hp.upto n4))=>(by
    have:=nAll (first:=#[.agg #[.slice L.ps n1 L.cs,.slice L.po n2 L.co,.slice L.ps n1 L.cs,.slice L.po n2 L.co,.slice L.pe n3 L.ce,.slice L.pn n4 L.cn,.int .i64 rt]]) (cap:=#[]) (enters_of func190 (by kernel_rfl) rfl) hS (fun j x hx _ W' hW=>by
     obtain ⟨rfl,hj⟩:=e5b hx;rw [z5b];exact BR.out j hj W' (hE.trans hW)) HB.out
    rw [upto_length] at this;exact this:Calls prog 189 #[.slice (some ⟨g,0,none⟩) n4 n4,.func (.func 190) #[.agg #[.slice L.ps n1 L.cs,.slice L.po n2 L.co,.slice L.ps n1 L.cs,.slice L.po n2 L.co,.slice L.pe n3 L.ce,.slice L.pn n4 L.cn,.int .i64 rt]] #[]] W fun e w'=>e = .returned (.bool bb)/\Ext W w'))
   go_enter func179,ntmps179;go_upto_region 5 with (go_at_call 121;refine m4_ (CF.out _ (exx)) fun w1 hb1 hc1 hf1 hs1=>?_;obtain ⟨hz1_0,hc1_0,hf1_0⟩:=c3_ hb1 w.heap.size;obtain ⟨hz1_1,hc1_1,hf1_1⟩:=c3_ hb1 (w.heap.size+1))
   have O1:Own7 w1 (w.heap.size+1) (.slice none 0 0) (.slice none 0 0) (.slice none 0 0) (.slice none 0 0) (.slice none 0 0) (.slice none 0 0) (.int .i64 0):=⟨by rw [hc1_1];go_simp,by rw [hc1_1];go_simp,by rw [hc1_1];go_simp,by rw [hc1_1];go_simp,by rw [hc1_1];go_simp,by rw [hc1_1];go_simp,by rw [hc1_1];go_simp,fun o=>by rw [hf1_1];go_simp⟩
   refine B0a (F:=fun W=>Hid (Ext w W)/\Hid (Own7 W (w.heap.size+1) (.slice L.ps n1 L.cs) (.slice L.po n2 L.co) (.slice L.ps n1 L.cs) (.slice L.po n2 L.co) (.slice L.pe n3 L.ce) (.slice L.pn n4 L.cn) (.int .i64 rt))/\W.cell? ⟨w.heap.size,2,none⟩=some (.slice L.pe n3 L.ce)/\W.cell? ⟨w.heap.size,3,none⟩=some (.slice L.pn n4 L.cn)/\W.cell? ⟨w.heap.size,4,none⟩=some (.int .i64 rt)) ⟨hZ (exx),hZ O1.set, ?x1, ?x2, ?x3⟩ ?_
   case x1=>have:=hc1_0 2;go_simp
   case x2=>have:=hc1_0 3;go_simp
   case x3=>have:=hc1_0 4;go_simp
   intro w2 ⟨E2,O2,d2,d3,d4⟩;have GL:=hZ (show w.heap.size<=w.heap.size+1 from by omega);have zd:=cell_lt d2;clear O1 hb1 hc1 hf1 hs1 hz1_0 hc1_0 hf1_0 hz1_1 hc1_1 hf1_1 CF;generalize w.heap.size+1=gl at O2 GL ⊢;generalize w.heap.size=gd at d2 d3 d4 zd ⊢
   cases ba with
   | false=>
    have er:res=4:=by rw [HE0.out,<- HL.out];simp
    subst er;go_upto_region 10 with (go_at_call 187;refine (AV.out _ (E2.out.trans (exx))).mono ?_;rintro e w3 ⟨rfl,hb3⟩)
    have O3:=hZ (O2.out.ext hb3);have E3:=hZ (E2.out.trans hb3);have OF:=hZ (Own7.set (d0:=.slice L.ps n1 L.cs) (d1:=.slice L.po n2 L.co) (d2:=.slice L.ps n1 L.cs) (d3:=.slice L.po n2 L.co) (d4:=.slice L.pe n3 L.ce) (d5:=.slice L.pn n4 L.cn) (d6:=.int .i64 rt) O3.out);have KF:=hZ (((Own7.e3a (W:=w3) (g:=gl) (d0:=.slice L.ps n1 L.cs) (d1:=.slice L.po n2 L.co) (d2:=.slice L.ps n1 L.cs) (d3:=.slice L.po n2 L.co) (d4:=.slice L.pe n3 L.ce) (d5:=.slice L.pn n4 L.cn) (d6:=.int .i64 rt))).D3a E3.out (fun b hb=>by rw [w8b.1 hb];exact GL.out));obtain ⟨l0,l1,l2,l3,l4',l5,l6,lz⟩:=O3.out
    go_wp2_with fail
    clear l0 l1 l2 l3 l4' l5 l6 lz;obtain ⟨l0,l1,l2,l3,l4',l5,l6,lz⟩:=OF.out;refine bodyPost_ret (v:=.tuple #[.agg #[.slice L.ps n1 L.cs,.slice L.po n2 L.co,.slice L.ps n1 L.cs,.slice L.po n2 L.co,.slice L.pe n3 L.ce,.slice L.pn n4 L.cn,.int .i64 rt],.int .i64 4]) (by simp [results,results179,go_sem, *]) rfl ?_;exact ⟨rfl,KF.out⟩
   | true=>
    go_upto_region 8 with (go_at_call 187;refine (AV.out _ (E2.out.trans (exx))).mono ?_;rintro e w3 ⟨rfl,hb3⟩)
    have O3:=hZ (O2.out.ext hb3);have E3:=hZ (E2.out.trans hb3);have d33:=hb3.q d3;have d43:=hb3.q d4;have zd3:=cell_lt d33;clear d2 d3 d4 zd hb3 AV;refine rg0 w3 ?_
    refine' tkL 0 ?_ (hy:=by intro w hSw;(have d3':=hSw.q d33;obtain ⟨l0,l1,l2,l3,l4',l5,l6,lz⟩:=O3.out.ext hSw);go_simp;try with_reducible rfl);refine' tkL 1 ?_ (hy:=by intro w hSw;(have d3':=hSw.q d33;obtain ⟨l0,l1,l2,l3,l4',l5,l6,lz⟩:=O3.out.ext hSw);go_simp;try with_reducible rfl);refine' tkL 2 ?_ (hy:=by intro w hSw;(have d3':=hSw.q d33;obtain ⟨l0,l1,l2,l3,l4',l5,l6,lz⟩:=O3.out.ext hSw);go_simp;try with_reducible rfl);refine' tkL 4 ?_ (hy:=by intro w hSw;(have d3':=hSw.q d33;obtain ⟨l0,l1,l2,l3,l4',l5,l6,lz⟩:=O3.out.ext hSw);go_simp;try with_reducible rfl);refine' tkL 5 ?_ (hy:=by intro w hSw;(have d3':=hSw.q d33;obtain ⟨l0,l1,l2,l3,l4',l5,l6,lz⟩:=O3.out.ext hSw);go_simp;try with_reducible rfl);refine G8a 3 (fun u w''=>∃ g,u = .slice (some ⟨g,0,none⟩) n4 n4/\Ext w3 w''/\SliceAt w'' (some ⟨g,0,none⟩) n4 (Hp.upto n4)) rfl (by kernel_rfl) (by rfl) ?run3 ?vs3 ?next3
    case run3=>
     intro w' hE hS;refine .inl ⟨166,#[.int .i64 n4],by go_simp,(NM.out _).mono ?_⟩;rintro e w'' ⟨g,rfl,hS',hE'⟩;exact ⟨_,rfl,g,rfl,((Ext.drew (Ext.refl w3)).trans hE).trans hE',hS'⟩
    case vs3=>
     rintro u w'' ⟨g,_,hE,_⟩ W hW;exact hE.trans hW
    case next3=>
    rintro u w4 ⟨g,rfl,hE4,hS4⟩;have HS4:=hZ hS4;have E4:=hZ (E3.out.trans hE4);have O4:=hZ (O3.out.ext hE4);have d34:=hE4.q d33;have d44:=hE4.q d43;have zd4:=cell_lt d34;clear hS4 hE4 d33 d43 zd3 O3 E3 O2 E2;refine layy ?_;refine' tkR 6 (v:=.bool bb) rfl (Or.inr ⟨by rfl,189,_, ?hx6_1555, ?hy6_1555⟩) ?rest6_1555
    case hx6_1555=>(intro w hSw;go_simp;try with_reducible rfl)
    case hy6_1555=>exact fun w hE=>(AI.out _ (E4.out.trans hE) g (HS4.out.ext hE)).mono (fun _ _ h=>⟨h.1,h.2,Ext.trans hE h.2⟩)
    refine layy ?_;refine' tkd 7 ?_;refine A0a (by kernel_rfl) ?_ _;intro x5 _ Ex5;have E5:=hZ (E4.out.trans Ex5);have O5:=hZ (O4.out.ext Ex5);have d35:=Ex5.q d34;have d45:=Ex5.q d44;have zd5:=cell_lt d35;clear d34 d44 zd4 O4 E4 Ex5 AI HS4
    cases bb with
    | false=>
     have er:res=4:=by rw [HE0.out,<- HL.out];simp
     subst er;go_upto_region 10 with fail
     have OF:=hZ (Own7.set (d0:=.slice L.ps n1 L.cs) (d1:=.slice L.po n2 L.co) (d2:=.slice L.ps n1 L.cs) (d3:=.slice L.po n2 L.co) (d4:=.slice L.pe n3 L.ce) (d5:=.slice L.pn n4 L.cn) (d6:=.int .i64 rt) O5.out);have KF:=hZ (((Own7.e3a (W:=x5) (g:=gl) (d0:=.slice L.ps n1 L.cs) (d1:=.slice L.po n2 L.co) (d2:=.slice L.ps n1 L.cs) (d3:=.slice L.po n2 L.co) (d4:=.slice L.pe n3 L.ce) (d5:=.slice L.pn n4 L.cn) (d6:=.int .i64 rt))).D3a E5.out (fun b hb=>by rw [w8b.1 hb];exact GL.out));obtain ⟨l0,l1,l2,l3,l4',l5,l6,lz⟩:=O5.out
     go_wp2_with fail
     clear l0 l1 l2 l3 l4' l5 l6 lz;obtain ⟨l0,l1,l2,l3,l4',l5,l6,lz⟩:=OF.out;refine bodyPost_ret (v:=.tuple #[.agg #[.slice L.ps n1 L.cs,.slice L.po n2 L.co,.slice L.ps n1 L.cs,.slice L.po n2 L.co,.slice L.pe n3 L.ce,.slice L.pn n4 L.cn,.int .i64 rt],.int .i64 4]) (by simp [results,results179,go_sem, *]) rfl ?_;exact ⟨rfl,KF.out⟩
    | true=>
     obtain ⟨l0,l1,l2,l3,l4',l5,l6,lz⟩:=O5.out
     cases bc with
     | false=>
      have er:res=4:=by rw [HE0.out,<- HL.out];simp
      subst er;go_upto_region 10 with (go_at_call 191;refine (KD.out _ (E5.out.trans (exx))).mono ?_;rintro e w6 ⟨rfl,hb6⟩)
      have O6:=hZ (O5.out.ext hb6);have E6:=hZ (E5.out.trans hb6);clear l0 l1 l2 l3 l4' l5 l6 lz;have OF:=hZ (Own7.set (d0:=.slice L.ps n1 L.cs) (d1:=.slice L.po n2 L.co) (d2:=.slice L.ps n1 L.cs) (d3:=.slice L.po n2 L.co) (d4:=.slice L.pe n3 L.ce) (d5:=.slice L.pn n4 L.cn) (d6:=.int .i64 rt) O6.out);have KF:=hZ (((Own7.e3a (W:=w6) (g:=gl) (d0:=.slice L.ps n1 L.cs) (d1:=.slice L.po n2 L.co) (d2:=.slice L.ps n1 L.cs) (d3:=.slice L.po n2 L.co) (d4:=.slice L.pe n3 L.ce) (d5:=.slice L.pn n4 L.cn) (d6:=.int .i64 rt))).D3a E6.out (fun b hb=>by rw [w8b.1 hb];exact GL.out));obtain ⟨l0,l1,l2,l3,l4',l5,l6,lz⟩:=O6.out
      go_wp2_with fail
      clear l0 l1 l2 l3 l4' l5 l6 lz;obtain ⟨l0,l1,l2,l3,l4',l5,l6,lz⟩:=OF.out;refine bodyPost_ret (v:=.tuple #[.agg #[.slice L.ps n1 L.cs,.slice L.po n2 L.co,.slice L.ps n1 L.cs,.slice L.po n2 L.co,.slice L.pe n3 L.ce,.slice L.pn n4 L.cn,.int .i64 rt],.int .i64 4]) (by simp [results,results179,go_sem, *]) rfl ?_;exact ⟨rfl,KF.out⟩
     | true=>
      have er:res=0:=by rw [HE0.out,<- HL.out];simp
      subst er;go_upto_region 11 with (go_at_call 191;refine (KD.out _ (E5.out.trans (exx))).mono ?_;rintro e w6 ⟨rfl,hb6⟩)
      have O6:=hZ (O5.out.ext hb6);have E6:=hZ (E5.out.trans hb6);clear l0 l1 l2 l3 l4' l5 l6 lz;have OF:=hZ (Own7.set (d0:=.slice L.ps n1 L.cs) (d1:=.slice L.po n2 L.co) (d2:=.slice L.ps n1 L.cs) (d3:=.slice L.po n2 L.co) (d4:=.slice L.pe n3 L.ce) (d5:=.slice L.pn n4 L.cn) (d6:=.int .i64 rt) O6.out);have KF:=hZ (((Own7.e3a (W:=w6) (g:=gl) (d0:=.slice L.ps n1 L.cs) (d1:=.slice L.po n2 L.co) (d2:=.slice L.ps n1 L.cs) (d3:=.slice L.po n2 L.co) (d4:=.slice L.pe n3 L.ce) (d5:=.slice L.pn n4 L.cn) (d6:=.int .i64 rt))).D3a E6.out (fun b hb=>by rw [w8b.1 hb];exact GL.out));obtain ⟨l0,l1,l2,l3,l4',l5,l6,lz⟩:=O6.out
      go_wp2_with fail
      clear l0 l1 l2 l3 l4' l5 l6 lz;obtain ⟨l0,l1,l2,l3,l4',l5,l6,lz⟩:=OF.out;refine bodyPost_ret (v:=.tuple #[.agg #[.slice L.ps n1 L.cs,.slice L.po n2 L.co,.slice L.ps n1 L.cs,.slice L.po n2 L.co,.slice L.pe n3 L.ce,.slice L.pn n4 L.cn,.int .i64 rt],.int .i64 0]) (by simp [results,results179,go_sem, *]) rfl ?_;exact ⟨rfl,KF.out⟩
open Go.RowKit Go.Maps
def h8b (w:World) (d:Nd.Dia) (e:Ending) (w':World):Prop:=
 ∃ M:DgL,e = .returned (dgV M d.sizes.length d.order.length d.clean.2.ends.length d.clean.2.nodes.length d.clean.1)/\DgRd w' M d.sizes d.order d.clean.2.ends d.clean.2.nodes/\Ext w w' /\ ∀ b ∈ M.blocks,w.heap.size<=b/\b < w'.heap.size
theorem MkSt.base {wa:World} {i:Mkr} {E:List (Int × Int)} {N:List (Int × List Int)} {K:List (Nat × Nat)} (h:MkSt wb w i E N pe ce pn cn K) (k:Ext wa wb):MkSt wa w i E N pe ce pn cn K:=
 { h with
   ext:=k.trans h.ext
   lo:=fun b hb=>⟨G5c k.le (h.lo b hb).1,(h.lo b hb).2⟩ }
theorem MkSt.root {i:Mkr} {E:List (Int × Int)} {N:List (Int × List Int)} {K:List (Nat × Nat)} (h:MkSt wb w i E N pe ce pn cn K) (v:Value):MkSt wb (w.setCell ⟨i.gm,6,none⟩ v) { i with v6:=v } E N pe ce pn cn K:=by
 have k:But [i.gm] w (w.setCell ⟨i.gm,6,none⟩ v):=(But.refl _ _).setCell (.inl (by simp)) _
 have gm:=h.lo i.gm (.inl (MkSt.in_m _ _ _))
 exact
  { ext:=k.D3a h.ext fun b hb=>by rw [w8b.1 hb];exact gm.1
    c:=h.c.set6 v
    e:=h.e.but k (by simpa using h.nd.1.symm) fun b hb hm=>(h.ndp b hb).1 (w8b.1 hm)
    n:=h.n.but k (by simpa using h.nd.2.1.symm) (fun b hb hm=>(h.ndn b hb).1 (w8b.1 hm)) (fun b hb hm=>(h.ndk b hb).1 (w8b.1 hm))
    lo:=fun b hb=>⟨(h.lo b hb).1,x4b (h.lo b hb).2 k.size⟩
    nd:=h.nd
    ndp:=h.ndp
    ndn:=h.ndn
    ndk:=h.ndk }
def mkL (p2:Option Addr) (c2:Nat) (p3:Option Addr) (c3:Nat) (pe:Option Addr) (ce:Nat) (pn:Option Addr) (cn:Nat) (K:List (Nat × Nat)):DgL:=⟨p2,c2,p3,c3,pe,ce,pn,cn,K.map fun k=>(some ⟨k.1,0,none⟩,k.2)⟩
theorem MkSt.rd {i:Mkr} {E:List (Int × Int)} {N:List (Int × List Int)} {p3:Option Addr} {c2 c3:Nat} {K:List (Nat × Nat)} (h:MkSt wb w i E N pe ce pn cn K) (s2:SliceAt w p2 c2 z) (s3:SliceAt w p3 c3 o):DgRd w (mkL p2 c2 p3 c3 pe ce pn cn K) z o E N:=by
 refine ⟨s2,s3,h.e.er.rd, ?_,by simp [mkL,h.n.kl],fun j q k hq hk=>?_⟩
 . have:=h.n.nr.rd;unfold mkL;rw [List.zipWith_map_right];exact this
 unfold mkL at hk
 simp only at hk
 rw [y7b,Option.map_eq_some_iff] at hk
 obtain ⟨k',hk',rfl⟩:=hk
 exact h.n.ks j q k' hq hk'
theorem m7b {i:Mkr} {p3:Option Addr} {c2 c3:Nat} {K:List (Nat × Nat)} (hb:b ∈ (mkL p2 c2 p3 c3 pe ce pn cn K).blocks):b ∈ blk p2 \/ b ∈ blk p3 \/ b ∈ i.dyn pe pn \/ b ∈ K.map Prod.fst:=by
 simp only [mkL,DgL.blocks,C4c] at hb
 rcases hb with (((hb | hb) | hb) | hb) | hb
 . exact .inl hb
 . exact .inr (.inl hb)
 . exact .inr (.inr (.inl (MkSt.l1a _ _ _ hb)))
 . exact .inr (.inr (.inl (MkSt.l0a _ _ _ hb)))
 rw [B0c] at hb
 obtain ⟨k,hk,hb⟩:=hb
 obtain ⟨k',hk',rfl⟩:=F7c.1 hk
 have:b=k'.1:=by simpa [blk] using hb
 rw [this]
 exact .inr (.inr (.inr (F7c.2 ⟨k',hk',rfl⟩)))
theorem CnSt.start {w5:World} {i:Mkr} {L:DgL} {d:Nd.Dia} {db:Nat} {t1 t2 t3:TypeId} (M:MkSt wb w5 i [] [] none 0 none 0 []) (D:LsAt w5 db L d.sizes.length d.order.length d.ends.length d.nodes.length d.root) (h1:wb.heap.size<=db) (h2:db ≠ i.gm/\db ≠ i.ge/\db ≠ i.gn) :
    CnSt wb ((((w5.alloc (.cells #[.pointer (some ⟨i.gm,0,none⟩)] t1)).alloc (.map #[] 0)).alloc (.cells #[.map (some (w5.heap.size+1))] t2)).alloc (.cells #[.func (.func 196) #[] #[.pointer (some ⟨w5.heap.size,0,none⟩),.pointer (some ⟨db,0,none⟩),.pointer (some ⟨w5.heap.size+1+1,0,none⟩),.pointer (some ⟨w5.heap.size+1+1+1,0,none⟩)]] t3))
     ⟨w5.heap.size,db,w5.heap.size+1+1,w5.heap.size+1+1+1,w5.heap.size+1⟩ i L d ⟨[],[],[]⟩ none 0 none 0 []:=by
  have zd:=cell_lt D.c0;have le:=M.ext.le;have k:Ext w5 ((((w5.alloc (.cells #[.pointer (some ⟨i.gm,0,none⟩)] t1)).alloc (.map #[] 0)).alloc (.cells #[.map (some (w5.heap.size+1))] t2)).alloc (.cells #[.func (.func 196) #[] #[.pointer (some ⟨w5.heap.size,0,none⟩),.pointer (some ⟨db,0,none⟩),.pointer (some ⟨w5.heap.size+1+1,0,none⟩),.pointer (some ⟨w5.heap.size+1+1+1,0,none⟩)]] t3)):=exx;have lm:=(M.lo i.gm (.inl (MkSt.in_m _ _ _))).2;have ln:=(M.lo i.gn (.inl (MkSt.in_n _ _ _))).2;have l3:=(M.lo i.ge (.inl (MkSt.in_e _ _ _))).2
  exact
   { sm:=M.ext' k
     m:=by go_simp
     d:=D.ext k
     k:=by go_simp
     f:=by unfold Cn.fv;go_simp
     map:=by
      have:=(G4a.made (P:=prog) (w5.alloc (.cells #[.pointer (some ⟨i.gm,0,none⟩)] t1)))
      rw [show (w5.alloc (.cells #[.pointer (some ⟨i.gm,0,none⟩)] t1)).heap.size=w5.heap.size+1 by simp] at this;exact (this.ext (Ext.alloc (Ext.refl _) _)).ext (Ext.alloc (Ext.refl _) _)
     lo:=fun b hb=>by
      simp [Cn.fixed] at hb;simp;omega
     fx:=fun b hb=>by
      simp [Cn.fixed] at hb;simp [Mkr.dyn,blk];omega
     gx:=by simp [Cn.fixed];omega }
theorem nClean {L:DgL} {d:Nd.Dia} (h:DgRd w L d.sizes d.order d.ends d.nodes) (hin:CnIn d) (hr:d.Ref d.root d.nodes.length) (hz:d.sizes.length<=1000000) (hol:d.order.length<=1000000) :
    Calls prog 181 #[lsV L d.sizes.length d.order.length d.ends.length d.nodes.length d.root] w (h8b w d):=by
  have NM:=hZ (fun W (hE:Ext w W)=>x4a (h.s.ext hE) (h.o.ext hE) hz hol);have H:=hZ h;have HIN:=hZ hin;have HR:=hZ hr;have mixed:prog.follows .mixedOrders=true:=by kernel_rfl
  have hmm:=@run_makeMap prog;obtain ⟨n1,h1⟩:∃ n,d.sizes.length=n:=⟨_,rfl⟩
  obtain ⟨n2,h2⟩:∃ n,d.order.length=n:=⟨_,rfl⟩
  obtain ⟨n3,h3⟩:∃ n,d.ends.length=n:=⟨_,rfl⟩
  obtain ⟨n4,h4⟩:∃ n,d.nodes.length=n:=⟨_,rfl⟩
  obtain ⟨rt,h5⟩:∃ n,d.root=n:=⟨_,rfl⟩
  have HQ:=hZ (show d.sizes.length=n1/\d.order.length=n2/\d.ends.length=n3/\d.nodes.length=n4/\d.root=rt from ⟨h1,h2,h3,h4,h5⟩);rw [h1,h2] at NM;rw [h1,h2,h3,h4,h5];clear h hin hr h1 h2 h3 h4 h5 hz hol;unfold lsV;go_enter func181,ntmps181;go_upto_region 1 with fail
  refine B0a (F:=fun W=>Hid (Ext w W)/\Hid (LsAt W w.heap.size L n1 n2 n3 n4 rt)/\Hid (Own5 W (w.heap.size+1) (.slice none 0 0) (.slice none 0 0) (.slice none 0 0) (.slice none 0 0) (.int .i64 0))) ⟨hZ (exx),hZ ⟨by go_simp,by go_simp,by go_simp,by go_simp,by go_simp,by go_simp,by go_simp⟩,hZ ⟨by go_simp,by go_simp,by go_simp,by go_simp,by go_simp,fun o=>by go_simp⟩⟩ ?_;intro w1 ⟨E1,D1,O1⟩;generalize hgo:w.heap.size+1=go at O1 ⊢;generalize hdb:w.heap.size=db at D1 ⊢;have DB:=hZ (show w.heap.size<=db/\w.heap.size<=go from ⟨by omega,by omega⟩);clear hgo hdb;have d0:=D1.out.c0;have d1:=D1.out.c1;have d6:=D1.out.c6;go_upto_region 5 with (go_at_call 195;refine (NM.out _ (E1.out.trans (exx))).mono ?_;rintro e w2 ⟨v,rfl,wm,hEm,i,p2,c2,p3,c3,hv,hM,hv2,hv3,hv6,hS2,hS3,hBB⟩;cases hv)
  have E2:=hZ (hEm.trans hM.ext);have GO:=hZ (show go < wm.heap.size from x4b (cell_lt O1.out.a0) hEm.le);have DD:=hZ (show db < wm.heap.size from x4b (cell_lt d0) hEm.le);have HMM:=hZ hM;have EM:=hZ (E1.out.trans hEm);have D2:=hZ (D1.out.ext E2.out);have O2:=hZ (O1.out.ext E2.out);have HS2:=hZ hS2;have HS3:=hZ hS3;have HBB:=hZ hBB;have HV:=hZ (show i.v2 = .slice p2 d.sizes.length c2/\i.v3 = .slice p3 d.order.length c3 from ⟨hv2,hv3⟩);refine B0a (F:=fun W=>Hid (CnSt w W ⟨w2.heap.size,db,w2.heap.size+1+1,w2.heap.size+1+1+1,w2.heap.size+1⟩ i L d ⟨[],[],[]⟩ none 0 none 0 [])/\Hid (Ext w2 W)) ⟨hZ (CnSt.start (hM.base EM.out) (by have:=D2.out;obtain ⟨h1,h2,h3,h4,h5⟩:=HQ.out;rw [h1,h2,h3,h4,h5];exact this) DB.out.1 ?ne),hZ (exx)⟩ ?_
  case ne=>
   have h1:=(hM.lo i.gm (.inl (MkSt.in_m _ _ _))).1;have h2:=(hM.lo i.ge (.inl (MkSt.in_e _ _ _))).1;have h3:=(hM.lo i.gn (.inl (MkSt.in_n _ _ _))).1;have h4:=DD.out;omega
  clear d0 d1 d6 hEm hM hv2 hv3 hv6 hS2 hS3 hBB;intro w3 ⟨C3,E3⟩;have O3:=hZ ((O2.out.ext E3.out).ext (Ext.drew (Ext.refl w3)));have CALL:=hZ (i1b H.out HIN.out d.nodes.length d.root HR.out (H0c _) w3.drew ⟨[],[],[]⟩ none 0 none 0 [] (C3.out.ext' (Ext.drew (Ext.refl w3))) (Nd.ClIn.start d));have SZ:=hZ E3.out.le;generalize w2.heap.size+1+1+1=fb at C3 CALL ⊢;generalize w2.heap.size+1+1=kb at C3 CALL ⊢;generalize hgk:w2.heap.size+1=gk at C3 CALL ⊢;have GK:=hZ (show w2.heap.size<=gk from by omega);clear hgk;generalize w2.heap.size=mb at C3 CALL ⊢;rw [show d.C3a (d.nodes.length+1) d.root ⟨[],[],[]⟩=d.clean from rfl] at CALL;have m3:=C3.out.m;have f3:=C3.out.f;have r3:=C3.out.d.c6;rw [HQ.out.2.2.2.2] at r3 CALL;unfold Cn.fv at f3;unfold Cn.args at CALL;simp only at m3 f3 r3 CALL;refine D4a (S:=fun W=>W.cell? ⟨mb,0,none⟩=some (.pointer (some ⟨i.gm,0,none⟩))/\W.cell? ⟨fb,0,none⟩=some (.func (.func 196) #[] #[.pointer (some ⟨mb,0,none⟩),.pointer (some ⟨db,0,none⟩),.pointer (some ⟨kb,0,none⟩),.pointer (some ⟨fb,0,none⟩)])/\W.cell? ⟨db,6,none⟩=some (.int .i64 rt)) (R:=Eq) (by kernel_rfl) (fun _=>rfl) ?_ ?_
  . exact ⟨m3,f3,r3⟩
  refine' tkr 0 ?_ (hy:=by intro w hSw;(obtain ⟨s1,s2,s3⟩:=hSw);go_simp;try with_reducible rfl);refine' tkr 1 ?_ (hy:=by intro w hSw;(obtain ⟨s1,s2,s3⟩:=hSw);go_simp;try with_reducible rfl);refine' tkr 2 ?_ (hy:=by intro w hSw;(obtain ⟨s1,s2,s3⟩:=hSw);go_simp;try with_reducible rfl);refine' tkr 3 ?_ (hy:=by intro w hSw;(obtain ⟨s1,s2,s3⟩:=hSw);go_simp;try with_reducible rfl);refine' tkr 4 ?_ (hy:=by intro w hSw;(obtain ⟨s1,s2,s3⟩:=hSw);go_simp;try with_reducible rfl);refine H5a 5 (f:=196) (args:=#[.int .i64 rt,.pointer (some ⟨mb,0,none⟩),.pointer (some ⟨db,0,none⟩),.pointer (some ⟨kb,0,none⟩),.pointer (some ⟨fb,0,none⟩)]) rfl (by kernel_rfl) (by rfl) ?run5 ?call5
  case run5=>go_simp
  refine CALL.out.mono ?_;rintro e w4 ⟨rfl,pe,ce,pn,cn,K,C4,B4,Y4,Z4⟩;have C4:=hZ C4;have B4:=hZ B4;have E3d:=hZ (E3.out.trans (Ext.drew (Ext.refl w3)));have LO:=hZ (show ∀ b,b ∈ gk :: i.dyn none none->wm.heap.size<=b from fun b hb=>by
   rcases E6c.1 hb with e | hb
   . have h1:=SZ.out;have h2:=HMM.out.ext.le;have h3:=GK.out;omega
   . exact (HMM.out.lo b (.inl hb)).1)
  have O4:=hZ (O3.out.but B4.out (fun hm=>by have:=LO.out _ hm;have:=GO.out;omega));have LOM:=hZ (show ∀ b ∈ (mkL p2 c2 p3 c3 pe ce pn cn K).blocks,wm.heap.size<=b/\b < w4.heap.size from fun b hb=>by
   have s1:=E3d.out.le;have s2:=B4.out.size;have s3:=HMM.out.ext.le
   rcases m7b (i:=i) hb with hb | hb | hb | hb
   . have:=HBB.out b (.inl hb);omega
   . have:=HBB.out b (.inr hb);omega
   . have h1:=(C4.out.sm.lo b (.inl hb)).2
     rcases Y4 b hb with hb | hb
     . have:=(HMM.out.lo b (.inl hb)).1;omega
     omega
   . have h1:=(C4.out.sm.lo b (.inr hb)).2
     rcases Z4 b hb with hb | hb
     . simp at hb
     . omega)
  have GM:=hZ (show wm.heap.size<=i.gm from (HMM.out.lo i.gm (.inl (MkSt.in_m _ _ _))).1);have FX:=hZ (show ∀ b,b ∈ [mb,db,kb,fb]->b ≠ i.gm from fun b hb e=>(C4.out.fx b (.inl hb)).1 (by rw [e];exact MkSt.in_m _ _ _));have m4:=C4.out.m;have f4:=C4.out.f;have r4:=C4.out.d.c6;rw [HQ.out.2.2.2.2] at r4;unfold Cn.fv at f4;simp only at m4 f4 r4;have S24:=hZ ((HS2.out.ext E3d.out).but B4.out (fun b o e hm=>by
   have h1:=HBB.out b (.inl (C2a e))
   rcases E6c.1 hm with h | h
   . simp only at h;have:=GK.out;omega
   . simp [Mkr.dyn,blk] at h;omega))
  have S34:=hZ ((HS3.out.ext E3d.out).but B4.out (fun b o e hm=>by
   have h1:=HBB.out b (.inr (C2a e))
   rcases E6c.1 hm with h | h
   . simp only at h;have:=GK.out;omega
   . simp [Mkr.dyn,blk] at h;omega))
  refine ⟨.int .i64 d.clean.1,rfl,⟨m4,f4,r4⟩, ?_⟩;clear Y4 Z4 m3 f3 r3 CALL C3;refine layy ?_;refine' tkr 6 ?_;refine' tkr 7 ?_;refine' tkr 8 ?_;have c6:=C4.out.sm.c.c6;have z6:=C4.out.sm.c.z 6;have R5:=hZ (C4.out.sm.root (.int .i64 d.clean.1));have B5:But [i.gm] w4 (w4.setCell ⟨i.gm,6,none⟩ (.int .i64 d.clean.1)):=(But.refl _ _).setCell (.inl (by simp)) _;have ngm:∀ b,b ∈ [mb,db,kb,fb]->b ∉ [i.gm]:=fun b hb hm=>FX.out b hb (w8b.1 hm)
  have m5:=(B5.cell (cell_lt m4) (ngm mb (by simp)) 0).trans m4;have f5:=(B5.cell (cell_lt f4) (ngm fb (by simp)) 0).trans f4;have r5:=(B5.cell (cell_lt r4) (ngm db (by simp)) 6).trans r4;have O5:=hZ (O4.out.but B5 (fun hm=>by have:=GO.out;have:=GM.out;rw [w8b.1 hm] at *;omega));have S25:=hZ (S24.out.but B5 (fun b o e hm=>(HBB.out b (.inl (C2a e))).2.2.1 (w8b.1 hm)));have S35:=hZ (S34.out.but B5 (fun b o e hm=>(HBB.out b (.inr (C2a e))).2.2.1 (w8b.1 hm)));have HB5:=hZ B5;refine V4a 9 (w':=w4.setCell ⟨i.gm,6,none⟩ (.int .i64 d.clean.1)) rfl (by kernel_rfl) (by rfl) ?run9 ⟨m5,f5,r5⟩ ?next9
  case run9=>go_simp
  clear B5 c6 z6 m4 f4 r4 ngm f5 r5 S24 S34 O3 O4;refine layy ?_;refine A0a (by kernel_rfl) ?_ _;intro w5 e5 _;rw [e5] at m5 R5 O5 S25 S35 HB5;clear e5;have q2:=R5.out.c.c2;have q3:=R5.out.c.c3;have q4:=R5.out.c.c4;have q5:=R5.out.c.c5;have q6:=R5.out.c.c6;simp only [HV.out.1,HV.out.2] at q2 q3 q4 q5 q6;rw [HQ.out.1] at q2;rw [HQ.out.2.1] at q3;obtain ⟨o0,o1,o2,o3,o4,oz⟩:=O5.out;have O6:=hZ (Own5.set (d0:=.slice p2 n1 c2) (d1:=.slice p3 n2 c3) (d2:=.slice pe d.clean.2.ends.length ce) (d3:=.slice pn d.clean.2.nodes.length cn) (d4:=.int .i64 d.clean.1) O5.out);have K6:=hZ (show But [go] w5 (((((w5.setCell ⟨go,0,none⟩ (.slice p2 n1 c2)).setCell ⟨go,1,none⟩ (.slice p3 n2 c3)).setCell ⟨go,2,none⟩ (.slice pe d.clean.2.ends.length ce)).setCell ⟨go,3,none⟩ (.slice pn d.clean.2.nodes.length cn)).setCell ⟨go,4,none⟩ (.int .i64 d.clean.1)) from (((((But.refl _ _).setCell (.inl (by simp)) _).setCell (.inl (by simp)) _).setCell (.inl (by simp)) _).setCell (.inl (by simp)) _).setCell (.inl (by simp)) _)
  go_wp2_with fail
  clear o0 o1 o2 o3 o4 oz;obtain ⟨a0,a1,a2,a3,a4,-⟩:=O6.out;refine bodyPost_ret (v:=.agg #[.slice p2 n1 c2,.slice p3 n2 c3,.slice pe d.clean.2.ends.length ce,.slice pn d.clean.2.nodes.length cn,.int .i64 d.clean.1]) (by simp [results,results181,go_sem, *]) rfl ?_;have D6:=(R5.out.rd S25.out S35.out).but K6.out (fun b hb hm=>by
   have:=(LOM.out b hm).1;have:=GO.out;rw [w8b.1 hb] at *;omega)
  refine ⟨mkL p2 c2 p3 c3 pe ce pn cn K, ?_,D6,K6.out.D3a (R5.out.ext) (fun b hb=>by rw [w8b.1 hb];exact DB.out.2),fun b hb=>?_⟩
  . rw [HQ.out.1,HQ.out.2.1];rfl
  have h1:=LOM.out b hb;have h2:=HB5.out.size;have h3:=K6.out.size;have h4:=EM.out.le;omega
theorem P1b {v:Int × Int} (h0:0<=v.1) (h:F0a v=true):okV v:=by
 unfold F0a at h
 split at h
 . simp only [Hp.within,B8c,A1c] at h;unfold okV;omega
 simp only [B8c,A1c] at h
 unfold okV
 omega
theorem g7a {d:Nd.Dia} {L:DgL} (fr:Hp.FrOk d.sizes d.order) (h:I2a d=true) (hN:W4a d L):CnIn d:=by
 have hlow:=(P5a h).1
 unfold I2a at h
 simp only [B8c,A7c,D8c] at h
 obtain ⟨⟨h1,h2⟩,h3⟩:=h
 have hnode:∀ q ∈ d.nodes,(0<=q.1/\q.1 < d.sizes.length)/\(q.2.length:Int)=d.sizes.getD q.1.toNat 0:=fun q hq=>by
  obtain ⟨i,hi⟩:=t6b.1 hq;have hil:=(q5b.1 hi).1;have:=h2 i hil;unfold G5a at this;have hqa:d.nodeAt i=q:=by unfold Nd.Dia.nodeAt;rw [hi];rfl
  rw [hqa] at this;simp only [B8c,Hp.within,A1c] at this;exact ⟨by omega,this.1.2⟩
 have hlen:∀ q ∈ d.nodes,1<=(q.2.length:Int)/\(q.2.length:Int)<=12:=fun q hq=>by
  obtain ⟨a1,a2⟩:=hnode q hq;rw [a2,q1b,r1b (by omega)];exact fr.toFr.pos _ (A4c (by omega))
 exact
  { low:=hlow
    el:=hN.el1
    nl:=hN.nl1
    ends:=fun v hv=>P1b (hN.f v hv) (h1 v hv)
    k0:=fun q hq e=>by have:=(hlen q hq).1;rw [e] at this;simp at this
    k12:=fun q hq=>by have:=(hlen q hq).2;omega
    var:=hN.vars
    one:=fun q hq r hr e=>by
     have h1:=(hnode q hq).2;have h2:=(hnode r hr).2;rw [e,<- h2] at h1;omega }
theorem T5b {L:DgL} {n1 n2 n3 n4:Nat} {rt le:Int} {v:Value} (hv:v=lsZ \/ v=lsV L n1 n2 n3 n4 rt) (hle:le ≠ 0) (OL:Hid (∀ W,Ext w W->Calls prog 179 #[dgV L n1 n2 n3 n4 rt] W fun e w'=>e = .returned (.tuple #[v,.int .i64 le])/\Ext W w')) :
    Calls prog 156 #[dgV L n1 n2 n3 n4 rt] w (Rt w (.tuple #[v,.int .i64 le])):=by
  have t0:(le == 0)=false:=by simpa using hle
  have mixed:prog.follows .mixedOrders=true:=by kernel_rfl
  clear hle;unfold dgV DgL.cells at *
  rcases hv with rfl | rfl
  . unfold lsZ at *;go_enter func156,ntmps156;go_upto_region 2 with (go_at_call 179;refine (OL.out _ (exx)).mono ?_;rintro e w1 ⟨rfl,hb1⟩;have hz1:w.heap.size+1 < w1.heap.size:=(by have h:=hb1.le;(try simp at h);omega);have hc1:=hb1.cell (b:=w.heap.size+1) (by simp);have hf1:=hb1.frozen (b:=w.heap.size+1) (by simp);have hc0:=hb1.cell (b:=w.heap.size) (by first | (simp;done) | (simp;omega)))
    have O1:Own7 w1 (w.heap.size+1) (.slice none 0 0) (.slice none 0 0) (.slice none 0 0) (.slice none 0 0) (.slice none 0 0) (.slice none 0 0) (.int .i64 0):=⟨by rw [hc1];go_simp,by rw [hc1];go_simp,by rw [hc1];go_simp,by rw [hc1];go_simp,by rw [hc1];go_simp,by rw [hc1];go_simp,by rw [hc1];go_simp,fun o=>by rw [hf1];go_simp⟩
    refine B0a (F:=fun W=>Hid (Ext w W)/\Hid (Own7 W (w.heap.size+1) (.slice none 0 0) (.slice none 0 0) (.slice none 0 0) (.slice none 0 0) (.slice none 0 0) (.slice none 0 0) (.int .i64 0))/\W.cell? ⟨w.heap.size,0,none⟩=some (.slice L.ps n1 L.cs)/\W.cell? ⟨w.heap.size,1,none⟩=some (.slice L.po n2 L.co)/\W.cell? ⟨w.heap.size,2,none⟩=some (.slice L.pe n3 L.ce)/\W.cell? ⟨w.heap.size,3,none⟩=some (.slice L.pn n4 L.cn)/\W.cell? ⟨w.heap.size,4,none⟩=some (.int .i64 rt)) ⟨hZ (exx),hZ (O1.set (d0:=.slice none 0 0) (d1:=.slice none 0 0) (d2:=.slice none 0 0) (d3:=.slice none 0 0) (d4:=.slice none 0 0) (d5:=.slice none 0 0) (d6:=.int .i64 0)), ?x0, ?x1, ?x2, ?x3, ?x4⟩ ?_
    case x0=>have:=hc0 0;go_simp
    case x1=>have:=hc0 1;go_simp
    case x2=>have:=hc0 2;go_simp
    case x3=>have:=hc0 3;go_simp
    case x4=>have:=hc0 4;go_simp
    intro w2 ⟨E2,O2,d0,d1,d2,d3,d4⟩;have GL:=hZ (show w.heap.size<=w.heap.size+1 from by omega);have zd:=cell_lt d0;clear O1 hb1 hc1 hf1 hc0 hz1 OL;generalize w.heap.size+1=gl at O2 GL ⊢;generalize w.heap.size=gd at d0 d1 d2 d3 d4 zd ⊢;refine rg0 w2 ?_
    refine' tkd 0 ?_;refine' tkL 2 ?_;refine' tkN 3 ?_;refine' tkN 4 ?_;refine' tkN 5 ?_;refine' tkN 6 ?_;refine' tkN 7 ?_;refine' tkL 8 ?_;refine A0a (by kernel_rfl) ?_ _;intro x3 _ Ex3;have E3:=hZ (E2.out.trans Ex3);have O3:=hZ (O2.out.ext Ex3);clear Ex3 d0 d1 d2 d3 d4 zd;go_upto_region 4 with fail
    have OF:=hZ (Own7.set (d0:=.slice none 0 0) (d1:=.slice none 0 0) (d2:=.slice none 0 0) (d3:=.slice none 0 0) (d4:=.slice none 0 0) (d5:=.slice none 0 0) (d6:=.int .i64 0) O3.out);have KF:=hZ ((Own7.e3a (W:=x3) (g:=gl) (d0:=.slice none 0 0) (d1:=.slice none 0 0) (d2:=.slice none 0 0) (d3:=.slice none 0 0) (d4:=.slice none 0 0) (d5:=.slice none 0 0) (d6:=.int .i64 0)).D3a E3.out (fun b hb=>by rw [w8b.1 hb];exact GL.out));obtain ⟨l0,l1,l2,l3,l4,l5,l6,lz⟩:=O3.out
    go_wp2_with fail
    clear l0 l1 l2 l3 l4 l5 l6 lz;obtain ⟨l0,l1,l2,l3,l4,l5,l6,lz⟩:=OF.out;refine bodyPost_ret (v:=.tuple #[.agg #[.slice none 0 0,.slice none 0 0,.slice none 0 0,.slice none 0 0,.slice none 0 0,.slice none 0 0,.int .i64 0],.int .i64 le]) (by simp [results,results156,go_sem, *]) rfl ?_;exact ⟨rfl,KF.out⟩
  unfold lsV at *;go_enter func156,ntmps156;go_upto_region 2 with (go_at_call 179;refine (OL.out _ (exx)).mono ?_;rintro e w1 ⟨rfl,hb1⟩;have hz1:w.heap.size+1 < w1.heap.size:=(by have h:=hb1.le;(try simp at h);omega);have hc1:=hb1.cell (b:=w.heap.size+1) (by simp);have hf1:=hb1.frozen (b:=w.heap.size+1) (by simp);have hc0:=hb1.cell (b:=w.heap.size) (by first | (simp;done) | (simp;omega)))
  have O1:Own7 w1 (w.heap.size+1) (.slice none 0 0) (.slice none 0 0) (.slice none 0 0) (.slice none 0 0) (.slice none 0 0) (.slice none 0 0) (.int .i64 0):=⟨by rw [hc1];go_simp,by rw [hc1];go_simp,by rw [hc1];go_simp,by rw [hc1];go_simp,by rw [hc1];go_simp,by rw [hc1];go_simp,by rw [hc1];go_simp,fun o=>by rw [hf1];go_simp⟩
  refine B0a (F:=fun W=>Hid (Ext w W)/\Hid (Own7 W (w.heap.size+1) (.slice L.ps n1 L.cs) (.slice L.po n2 L.co) (.slice L.ps n1 L.cs) (.slice L.po n2 L.co) (.slice L.pe n3 L.ce) (.slice L.pn n4 L.cn) (.int .i64 rt))/\W.cell? ⟨w.heap.size,0,none⟩=some (.slice L.ps n1 L.cs)/\W.cell? ⟨w.heap.size,1,none⟩=some (.slice L.po n2 L.co)/\W.cell? ⟨w.heap.size,2,none⟩=some (.slice L.pe n3 L.ce)/\W.cell? ⟨w.heap.size,3,none⟩=some (.slice L.pn n4 L.cn)/\W.cell? ⟨w.heap.size,4,none⟩=some (.int .i64 rt)) ⟨hZ (exx),hZ (O1.set (d0:=.slice L.ps n1 L.cs) (d1:=.slice L.po n2 L.co) (d2:=.slice L.ps n1 L.cs) (d3:=.slice L.po n2 L.co) (d4:=.slice L.pe n3 L.ce) (d5:=.slice L.pn n4 L.cn) (d6:=.int .i64 rt)), ?x0, ?x1, ?x2, ?x3, ?x4⟩ ?_
  case x0=>have:=hc0 0;go_simp
  case x1=>have:=hc0 1;go_simp
  case x2=>have:=hc0 2;go_simp
  case x3=>have:=hc0 3;go_simp
  case x4=>have:=hc0 4;go_simp
  intro w2 ⟨E2,O2,d0,d1,d2,d3,d4⟩;have GL:=hZ (show w.heap.size<=w.heap.size+1 from by omega);have zd:=cell_lt d0;clear O1 hb1 hc1 hf1 hc0 hz1 OL;generalize w.heap.size+1=gl at O2 GL ⊢;generalize w.heap.size=gd at d0 d1 d2 d3 d4 zd ⊢;refine rg0 w2 ?_
  refine' tkd 0 ?_;refine' tkL 2 ?_;refine' tkN 3 ?_;refine' tkN 4 ?_;refine' tkN 5 ?_;refine' tkN 6 ?_;refine' tkN 7 ?_;refine' tkL 8 ?_;refine A0a (by kernel_rfl) ?_ _;intro x3 _ Ex3;have E3:=hZ (E2.out.trans Ex3);have O3:=hZ (O2.out.ext Ex3);clear Ex3 d0 d1 d2 d3 d4 zd;go_upto_region 4 with fail
  have OF:=hZ (Own7.set (d0:=.slice L.ps n1 L.cs) (d1:=.slice L.po n2 L.co) (d2:=.slice L.ps n1 L.cs) (d3:=.slice L.po n2 L.co) (d4:=.slice L.pe n3 L.ce) (d5:=.slice L.pn n4 L.cn) (d6:=.int .i64 rt) O3.out);have KF:=hZ ((Own7.e3a (W:=x3) (g:=gl) (d0:=.slice L.ps n1 L.cs) (d1:=.slice L.po n2 L.co) (d2:=.slice L.ps n1 L.cs) (d3:=.slice L.po n2 L.co) (d4:=.slice L.pe n3 L.ce) (d5:=.slice L.pn n4 L.cn) (d6:=.int .i64 rt)).D3a E3.out (fun b hb=>by rw [w8b.1 hb];exact GL.out));obtain ⟨l0,l1,l2,l3,l4,l5,l6,lz⟩:=O3.out
  go_wp2_with fail
  clear l0 l1 l2 l3 l4 l5 l6 lz;obtain ⟨l0,l1,l2,l3,l4,l5,l6,lz⟩:=OF.out;refine bodyPost_ret (v:=.tuple #[.agg #[.slice L.ps n1 L.cs,.slice L.po n2 L.co,.slice L.ps n1 L.cs,.slice L.po n2 L.co,.slice L.pe n3 L.ce,.slice L.pn n4 L.cn,.int .i64 rt],.int .i64 le]) (by simp [results,results156,go_sem, *]) rfl ?_;exact ⟨rfl,KF.out⟩
theorem a7b {L:DgL} {n1 n2 n3 n4:Nat} {rt:Int} {b:Bool} {R:Value->World->Prop} (OL:Hid (∀ W,Ext w W->Calls prog 179 #[dgV L n1 n2 n3 n4 rt] W fun e w'=>e = .returned (.tuple #[lsV L n1 n2 n3 n4 rt,.int .i64 0])/\Ext W w')) (CL:Hid (∀ W,Ext w W->Calls prog 181 #[lsV L n1 n2 n3 n4 rt] W fun e w'=>∃ v,e = .returned v/\Ext W w'/\R v w')) (hR:Hid (∀ v W W',R v W->Ext W W'->R v W'))
    (EQ:Hid (∀ v W,Ext w W->R v W->Calls prog 180 #[v,dgV L n1 n2 n3 n4 rt] W fun e w'=>e = .returned (.bool b)/\Ext W w')) :
    Calls prog 156 #[dgV L n1 n2 n3 n4 rt] w (Rt w (.tuple #[lsV L n1 n2 n3 n4 rt,.int .i64 (if b=true then 0 else 4)])):=by
  have mixed:prog.follows .mixedOrders=true:=by kernel_rfl
  unfold dgV DgL.cells lsV at *;go_enter func156,ntmps156;go_upto_region 2 with (go_at_call 179;refine (OL.out _ (exx)).mono ?_;rintro e w1 ⟨rfl,hb1⟩;have hz1:w.heap.size+1 < w1.heap.size:=(by have h:=hb1.le;(try simp at h);omega);have hc1:=hb1.cell (b:=w.heap.size+1) (by simp);have hf1:=hb1.frozen (b:=w.heap.size+1) (by simp);have hc0:=hb1.cell (b:=w.heap.size) (by first | (simp;done) | (simp;omega)))
  have O1:Own7 w1 (w.heap.size+1) (.slice none 0 0) (.slice none 0 0) (.slice none 0 0) (.slice none 0 0) (.slice none 0 0) (.slice none 0 0) (.int .i64 0):=⟨by rw [hc1];go_simp,by rw [hc1];go_simp,by rw [hc1];go_simp,by rw [hc1];go_simp,by rw [hc1];go_simp,by rw [hc1];go_simp,by rw [hc1];go_simp,fun o=>by rw [hf1];go_simp⟩
  refine B0a (F:=fun W=>Hid (Ext w W)/\Hid (Own7 W (w.heap.size+1) (.slice L.ps n1 L.cs) (.slice L.po n2 L.co) (.slice L.ps n1 L.cs) (.slice L.po n2 L.co) (.slice L.pe n3 L.ce) (.slice L.pn n4 L.cn) (.int .i64 rt))/\W.cell? ⟨w.heap.size,0,none⟩=some (.slice L.ps n1 L.cs)/\W.cell? ⟨w.heap.size,1,none⟩=some (.slice L.po n2 L.co)/\W.cell? ⟨w.heap.size,2,none⟩=some (.slice L.pe n3 L.ce)/\W.cell? ⟨w.heap.size,3,none⟩=some (.slice L.pn n4 L.cn)/\W.cell? ⟨w.heap.size,4,none⟩=some (.int .i64 rt)) ⟨hZ (exx),hZ (O1.set (d0:=.slice L.ps n1 L.cs) (d1:=.slice L.po n2 L.co) (d2:=.slice L.ps n1 L.cs) (d3:=.slice L.po n2 L.co) (d4:=.slice L.pe n3 L.ce) (d5:=.slice L.pn n4 L.cn) (d6:=.int .i64 rt)), ?x0, ?x1, ?x2, ?x3, ?x4⟩ ?_
  case x0=>have:=hc0 0;go_simp
  case x1=>have:=hc0 1;go_simp
  case x2=>have:=hc0 2;go_simp
  case x3=>have:=hc0 3;go_simp
  case x4=>have:=hc0 4;go_simp
  intro w2 ⟨E2,O2,d0,d1,d2,d3,d4⟩;have GL:=hZ (show w.heap.size<=w.heap.size+1 from by omega);have zd:=cell_lt d0;clear O1 hb1 hc1 hf1 hc0 hz1 OL;generalize w.heap.size+1=gl at O2 GL ⊢;generalize w.heap.size=gd at d0 d1 d2 d3 d4 zd ⊢
  skip
  refine rg0 w2 ?_
  refine' tkL 0 ?_ (hy:=by intro w hSw;(obtain ⟨l0,l1,l2,l3,l4,l5,l6,lz⟩:=O2.out.ext hSw;have d0':=hSw.q d0;have d1':=hSw.q d1;have d2':=hSw.q d2;have d3':=hSw.q d3;have d4':=hSw.q d4);go_simp;try with_reducible rfl);refine' tkL 1 ?_ (hy:=by intro w hSw;(obtain ⟨l0,l1,l2,l3,l4,l5,l6,lz⟩:=O2.out.ext hSw;have d0':=hSw.q d0;have d1':=hSw.q d1;have d2':=hSw.q d2;have d3':=hSw.q d3;have d4':=hSw.q d4);go_simp;try with_reducible rfl);refine' tkL 2 ?_ (hy:=by intro w hSw;(obtain ⟨l0,l1,l2,l3,l4,l5,l6,lz⟩:=O2.out.ext hSw;have d0':=hSw.q d0;have d1':=hSw.q d1;have d2':=hSw.q d2;have d3':=hSw.q d3;have d4':=hSw.q d4);go_simp;try with_reducible rfl);refine' tkL 3 ?_ (hy:=by intro w hSw;(obtain ⟨l0,l1,l2,l3,l4,l5,l6,lz⟩:=O2.out.ext hSw;have d0':=hSw.q d0;have d1':=hSw.q d1;have d2':=hSw.q d2;have d3':=hSw.q d3;have d4':=hSw.q d4);go_simp;try with_reducible rfl);refine' tkL 5 ?_ (hy:=by intro w hSw;(obtain ⟨l0,l1,l2,l3,l4,l5,l6,lz⟩:=O2.out.ext hSw;have d0':=hSw.q d0;have d1':=hSw.q d1;have d2':=hSw.q d2;have d3':=hSw.q d3;have d4':=hSw.q d4);go_simp;try with_reducible rfl);refine G8a 4 (fun u w''=>Ext w2 w''/\R u w'') rfl (by kernel_rfl) (by rfl) ?run4 ?vs4 ?next4
  case run4=>
   intro w' hE hS;refine .inl ⟨181,#[.agg #[.slice L.ps n1 L.cs,.slice L.po n2 L.co,.slice L.ps n1 L.cs,.slice L.po n2 L.co,.slice L.pe n3 L.ce,.slice L.pn n4 L.cn,.int .i64 rt]],by go_simp,(CL.out _ (E2.out.trans (((Ext.drew (Ext.refl w2)).trans hE)))).mono ?_⟩;rintro e w'' ⟨v,rfl,hE',hr⟩;exact ⟨_,rfl,((Ext.drew (Ext.refl w2)).trans hE).trans hE',hr⟩
  case vs4=>
   rintro u w'' ⟨hE,_⟩ W hW;exact hE.trans hW
  case next4=>
  rintro u w3 ⟨hE3,hr3⟩;have HR3:=hZ hr3;have E3:=hZ (E2.out.trans hE3);have O3:=hZ (O2.out.ext hE3);clear hr3 hE3 d0 d1 d2 d3 d4 zd;refine layy ?_;refine' tkR 6 (v:=.bool b) rfl (Or.inr ⟨by rfl,180,_, ?hx6_1589, ?hy6_1589⟩) ?rest6_1589
  case hx6_1589=>(intro w hSw;go_simp;try with_reducible rfl)
  case hy6_1589=>exact fun w hE=>(EQ.out u _ (E3.out.trans hE) (hR.out _ _ _ HR3.out hE)).mono (fun _ _ h=>⟨h.1,h.2,Ext.trans hE h.2⟩)
  refine layy ?_;refine' tkd 7 ?_;refine A0a (by kernel_rfl) ?_ _;intro x5 _ Ex5;have E5:=hZ (E3.out.trans Ex5);have O5:=hZ (O3.out.ext Ex5);clear Ex5
  cases b with
  | true=>
   go_upto_region 4 with fail
   have OF:=hZ (Own7.set (d0:=.slice L.ps n1 L.cs) (d1:=.slice L.po n2 L.co) (d2:=.slice L.ps n1 L.cs) (d3:=.slice L.po n2 L.co) (d4:=.slice L.pe n3 L.ce) (d5:=.slice L.pn n4 L.cn) (d6:=.int .i64 rt) O5.out);have KF:=hZ ((Own7.e3a (W:=x5) (g:=gl) (d0:=.slice L.ps n1 L.cs) (d1:=.slice L.po n2 L.co) (d2:=.slice L.ps n1 L.cs) (d3:=.slice L.po n2 L.co) (d4:=.slice L.pe n3 L.ce) (d5:=.slice L.pn n4 L.cn) (d6:=.int .i64 rt)).D3a E5.out (fun b hb=>by rw [w8b.1 hb];exact GL.out));obtain ⟨l0,l1,l2,l3,l4,l5,l6,lz⟩:=O5.out
   go_wp2_with fail
   clear l0 l1 l2 l3 l4 l5 l6 lz;obtain ⟨l0,l1,l2,l3,l4,l5,l6,lz⟩:=OF.out;refine bodyPost_ret (v:=.tuple #[.agg #[.slice L.ps n1 L.cs,.slice L.po n2 L.co,.slice L.ps n1 L.cs,.slice L.po n2 L.co,.slice L.pe n3 L.ce,.slice L.pn n4 L.cn,.int .i64 rt],.int .i64 0]) (by simp [results,results156,go_sem, *]) rfl ?_;exact ⟨rfl,KF.out⟩
  | false=>
   go_upto_region 3 with fail
   have OF:=hZ (Own7.set (d0:=.slice L.ps n1 L.cs) (d1:=.slice L.po n2 L.co) (d2:=.slice L.ps n1 L.cs) (d3:=.slice L.po n2 L.co) (d4:=.slice L.pe n3 L.ce) (d5:=.slice L.pn n4 L.cn) (d6:=.int .i64 rt) O5.out);have KF:=hZ ((Own7.e3a (W:=x5) (g:=gl) (d0:=.slice L.ps n1 L.cs) (d1:=.slice L.po n2 L.co) (d2:=.slice L.ps n1 L.cs) (d3:=.slice L.po n2 L.co) (d4:=.slice L.pe n3 L.ce) (d5:=.slice L.pn n4 L.cn) (d6:=.int .i64 rt)).D3a E5.out (fun b hb=>by rw [w8b.1 hb];exact GL.out));obtain ⟨l0,l1,l2,l3,l4,l5,l6,lz⟩:=O5.out
   go_wp2_with fail
   clear l0 l1 l2 l3 l4 l5 l6 lz;obtain ⟨l0,l1,l2,l3,l4,l5,l6,lz⟩:=OF.out;refine bodyPost_ret (v:=.tuple #[.agg #[.slice L.ps n1 L.cs,.slice L.po n2 L.co,.slice L.ps n1 L.cs,.slice L.po n2 L.co,.slice L.pe n3 L.ce,.slice L.pn n4 L.cn,.int .i64 rt],.int .i64 4]) (by simp [results,results156,go_sem, *]) rfl ?_;exact ⟨rfl,KF.out⟩
def opV (L:DgL) (d:Nd.Dia):Value:=if Hp.A2a d.sizes d.order=0 then lsV L d.sizes.length d.order.length d.ends.length d.nodes.length d.root else lsZ
theorem f6b (L:DgL) (d:Nd.Dia):opV L d=lsZ \/ opV L d=lsV L d.sizes.length d.order.length d.ends.length d.nodes.length d.root:=by
 unfold opV
 split
 . exact .inr rfl
 exact .inl rfl
theorem Z6a {d:Nd.Dia} (h:F6a d=0):Hp.A2a d.sizes d.order=0/\I2a d=true:=by
 unfold F6a at h
 split at h
 . rename_i h1;exact absurd h h1
 rename_i h1
 split at h
 . rename_i h2;exact ⟨by omega,h2⟩
 omega
theorem h0b {L:DgL} {d:Nd.Dia} (h:F6a d=0):opV L d=lsV L d.sizes.length d.order.length d.ends.length d.nodes.length d.root:=by
 unfold opV
 rw [H5c (Z6a h).1]
theorem ClRes {d:Nd.Dia} {e:Ending} (h:h8b w d e w'):∃ v,e = .returned v/\Ext w w' /\ ∃ M:DgL,v=dgV M d.sizes.length d.order.length d.clean.2.ends.length d.clean.2.nodes.length d.clean.1/\DgRd w' M d.sizes d.order d.clean.2.ends d.clean.2.nodes:=by
 obtain ⟨M,rfl,h1,h2,_⟩:=h
 exact ⟨_,rfl,h2,M,rfl,h1⟩
theorem nOpen {L:DgL} {d:Nd.Dia} (h:DgRd w L d.sizes d.order d.ends d.nodes) (hN:W4a d L) :
    Calls prog 156 #[dgV L d.sizes.length d.order.length d.ends.length d.nodes.length d.root] w (Rt w (.tuple #[opV L d,.int .i64 (E8a d)])):=by
  by_cases hle:F6a d=0
  case neg=>
   have e:E8a d=F6a d:=by unfold E8a;rw [H5c hle]
   rw [e];exact T5b (f6b L d) hle (hZ fun W hE=>o0a (h.ext hE) hN rfl)
  case pos=>
   obtain ⟨hf,hlb⟩:=Z6a hle;have fr:=(Hp.H8a hf).1;have hin:=g7a fr hlb hN;obtain ⟨hlow,hroot⟩:=P5a hlb;have few:=fr.toFr.few;have len:=fr.len;rw [h0b hle];have e:E8a d=if (decide (d.clean.2.ends=d.ends) && (decide (d.clean.2.nodes=d.nodes) && (d.clean.1 == d.root)))=true then 0 else 4:=by
    unfold E8a;rw [H4c (by omega)];have:=Nd.Y2b hlow hroot
    by_cases hi:d.Is
    . obtain ⟨h1,h2,h3⟩:=this.2 hi;rw [H5c hi,H5c (by simp [h1,h2,h3])]
    rw [H4c hi,H4c];intro hb;simp only [B8c,A1c,beq_iff_eq] at hb;exact hi (this.1 ⟨hb.2.2,hb.1,hb.2.1⟩)
   rw [e];refine a7b (R:=fun v W=>∃ M:DgL,v=dgV M d.sizes.length d.order.length d.clean.2.ends.length d.clean.2.nodes.length d.clean.1/\DgRd W M d.sizes d.order d.clean.2.ends d.clean.2.nodes) (hZ fun W hE=>?_) (hZ fun W hE=>?_) (hZ fun v W W' hr hE=>?_) (hZ fun v W hE hr=>?_)
   . have:=o0a (v:=lsV L d.sizes.length d.order.length d.ends.length d.nodes.length d.root) (h.ext hE) hN (h0b hle);rw [hle] at this;exact this
   . exact (nClean (h.ext hE) hin hroot (by omega) (by omega)).mono fun e w' hp=>ClRes hp
   . obtain ⟨M,e,hM⟩:=hr;exact ⟨M,e,hM.ext hE⟩
   obtain ⟨M,rfl,hM⟩:=hr;have:=nEqual (d:=⟨d.sizes,d.order,d.clean.2.ends,d.clean.2.nodes,d.clean.1⟩) (e:=d) (q1:=true) (q2:=true) hM (h.ext hE) (by simp) (by simp) rfl rfl
   simpa using this
theorem T6b {L:DgL} {d:Nd.Dia} (h:DgRd w L d.sizes d.order d.ends d.nodes) (hN:W4a d L) :
    Calls prog 100 #[dgV L d.sizes.length d.order.length d.ends.length d.nodes.length d.root] w (Rt w (.int .i64 (E8a d))):=by
  have OP:=hZ (fun W (hE:Ext w W)=>nOpen (h.ext hE) hN);have hv:=f6b L d;clear h hN;generalize opV L d=v at *;generalize E8a d=r at *;generalize d.sizes.length=n1 at *;generalize d.order.length=n2 at *;generalize d.ends.length=n3 at *;generalize d.nodes.length=n4 at *;generalize d.root=rt at *;unfold dgV DgL.cells at *
  rcases hv with rfl | rfl
  . unfold lsZ at *;go_enter func100,ntmps100
    go_wp2_with (go_at_call 156;refine m4_ (OP.out _ (exx)) fun w1 hb1 hc1 hf1 hs1=>?_)
    go_returns;exact ⟨rfl,exx⟩
  unfold lsV at *;go_enter func100,ntmps100
  go_wp2_with (go_at_call 156;refine m4_ (OP.out _ (exx)) fun w1 hb1 hc1 hf1 hs1=>?_)
  go_returns;exact ⟨rfl,exx⟩
def vb2:Value->List Nat
 | .slice p _ _=>blk p
 | .pointer (some a)=>[a.block]
 | _=>[]
def d1a (W:World) (v:Value) (q:Bool) (x:Value):Prop:=∃ (g:Nat) (y:Value),v = .pointer (some ⟨g,0,none⟩)/\W.cell? ⟨g,0,none⟩=some y/\W.frozen? ⟨g,0,none⟩=false/\(q=true->y=x)
def c5a (W:World) (v:Value) (n:Nat):Prop:=∃ g:Nat,v = .slice (some ⟨g,0,none⟩) n n/\A3a W g (List.replicate n 0)
theorem d1a.but {W:World} {v x:Value} {q:Bool} (h:d1a W v q x) {l:List Nat} (k:But l W W') (hl:∀ b ∈ l,b ∉ vb2 v):d1a W' v q x:=by
 obtain ⟨g,y,rfl,h1,h2,h3⟩:=h
 have hg:g ∉ l:=fun hm=>hl g hm (by simp [vb2])
 exact ⟨g,y,rfl,(k.cell (cell_lt h1) hg 0).trans h1,(k.frozen (cell_lt h1) hg 0).trans h2,h3⟩
theorem d1a.ext {W:World} {v x:Value} {q:Bool} (h:d1a W v q x) (k:Ext W W'):d1a W' v q x:=h.but (l:=[]) (But.E7a k) (by simp)
theorem c5a.but {W:World} {v:Value} (h:c5a W v n) {l:List Nat} (k:But l W W') (hl:∀ b ∈ l,b ∉ vb2 v):c5a W' v n:=by
 obtain ⟨g,rfl,h1⟩:=h
 exact ⟨g,rfl,h1.but k fun hm=>hl g hm (by simp [vb2,blk])⟩
theorem c5a.ext {W:World} {v:Value} (h:c5a W v n) (k:Ext W W'):c5a W' v n:=h.but (l:=[]) (But.E7a k) (by simp)
theorem d1a.lt {W:World} {v x:Value} {q:Bool} (h:d1a W v q x):∀ b ∈ vb2 v,b < W.heap.size:=fun b hb=>by
 obtain ⟨g,y,rfl,h1,_⟩:=h
 rw [w8b.1 hb]
 exact cell_lt h1
theorem c5a.lt {W:World} {v:Value} (h:c5a W v n):∀ b ∈ vb2 v,b < W.heap.size:=fun b hb=>by
 obtain ⟨g,rfl,h1⟩:=h
 have:b=g:=by simpa [vb2,blk] using hb
 rw [this]
 exact h1.lt
structure PtK (w0:World) (n m:Nat) (L:Nat->Bool) (W:World) (v1 v2 v3 v4:Value):Prop where
 ext:Ext w0 W
 a:L 3=true->c5a W v1 n /\ ∀ b ∈ vb2 v1,w0.heap.size<=b
 b:L 7=true->c5a W v2 m /\ ∀ b ∈ vb2 v2,w0.heap.size<=b
 c:L 8=true->d1a W v3 (L 10) v1 /\ ∀ b ∈ vb2 v3,w0.heap.size<=b
 d:L 9=true->d1a W v4 (L 11) v2 /\ ∀ b ∈ vb2 v4,w0.heap.size<=b
 ab:L 3=true->L 7=true -> ∀ b ∈ vb2 v1,b ∉ vb2 v2
 ac:L 3=true->L 8=true -> ∀ b ∈ vb2 v1,b ∉ vb2 v3
 ad:L 3=true->L 9=true -> ∀ b ∈ vb2 v1,b ∉ vb2 v4
 bc:L 7=true->L 8=true -> ∀ b ∈ vb2 v2,b ∉ vb2 v3
 bd:L 7=true->L 9=true -> ∀ b ∈ vb2 v2,b ∉ vb2 v4
 cd:L 8=true->L 9=true -> ∀ b ∈ vb2 v3,b ∉ vb2 v4
 p:L 10=true->L 3=true/\L 8=true
 q:L 11=true->L 7=true/\L 9=true
namespace PtK
variable {w0 W W':World} {n m g:Nat} {L:Nat->Bool} {v1 v2 v3 v4 v:Value}
theorem no {p:Prop} {a:Bool} (h0:a=false) (h:a=true):p:=by rw [h0] at h;cases h
theorem a' (k:PtK w0 n m L W v1 v2 v3 v4) (y:Ext W W') (h:L 3=true):c5a W' v1 n /\ ∀ b ∈ vb2 v1,w0.heap.size<=b:=⟨(k.a h).1.ext y,(k.a h).2⟩
theorem b' (k:PtK w0 n m L W v1 v2 v3 v4) (y:Ext W W') (h:L 7=true):c5a W' v2 m /\ ∀ b ∈ vb2 v2,w0.heap.size<=b:=⟨(k.b h).1.ext y,(k.b h).2⟩
theorem c' (k:PtK w0 n m L W v1 v2 v3 v4) (y:Ext W W') (h:L 8=true):d1a W' v3 (L 10) v1 /\ ∀ b ∈ vb2 v3,w0.heap.size<=b:=⟨(k.c h).1.ext y,(k.c h).2⟩
theorem d' (k:PtK w0 n m L W v1 v2 v3 v4) (y:Ext W W') (h:L 9=true):d1a W' v4 (L 11) v2 /\ ∀ b ∈ vb2 v4,w0.heap.size<=b:=⟨(k.d h).1.ext y,(k.d h).2⟩
theorem old {o:Value} (h:∀ b ∈ vb2 o,b < W.heap.size) (hv:vb2 v=[W.heap.size]):∀ b ∈ vb2 o,b ∉ vb2 v:=fun b hb hm=>by
 have:=h b hb
 rw [hv] at hm
 rw [w8b.1 hm] at this
 omega
theorem new {o:Value} (h:∀ b ∈ vb2 o,b < W.heap.size) (hv:vb2 v=[W.heap.size]):∀ b ∈ vb2 v,b ∉ vb2 o:=fun b hm hb=>by
 have:=h b hb
 rw [hv] at hm
 rw [w8b.1 hm] at this
 omega
theorem lo (k:PtK w0 n m L W v1 v2 v3 v4) (hv:vb2 v=[W.heap.size]):∀ b ∈ vb2 v,w0.heap.size<=b:=fun b hb=>by
 rw [hv] at hb
 rw [w8b.1 hb]
 exact k.ext.le
theorem row (W:World) (n:Nat):c5a (W.alloc (.cells (madeCells #[.int .i64 0] n) 3)) (.slice (some ⟨W.heap.size,0,none⟩) n n) n:=⟨W.heap.size,rfl,V0a W n⟩
theorem box (W:World) (q:Bool) (x:Value) (t:TypeId) (hq:q=false):d1a (W.alloc (.cells #[.slice none 0 0] t)) (.pointer (some ⟨W.heap.size,0,none⟩)) q x:=
 ⟨W.heap.size,.slice none 0 0,rfl,by go_simp,by go_simp,fun h=>no hq h⟩
theorem step3 (k:PtK w0 n m L W v1 v2 v3 v4) (hL:L 3=false):PtK w0 n m (also L 3) (W.alloc (.cells (madeCells #[.int .i64 0] n) 3)) (.slice (some ⟨W.heap.size,0,none⟩) n n) v2 v3 v4:=by
 have y:Ext W (W.alloc (.cells (madeCells #[.int .i64 0] n) 3)):=Ext.alloc (Ext.refl W) _
 have hv:vb2 (.slice (some ⟨W.heap.size,0,none⟩) n n)=[W.heap.size]:=rfl
 have h10:L 10=false:=by
  cases e:L 10 with
  | false=>rfl
  | true=>exact no hL (k.p e).1
 exact ⟨k.ext.trans y,fun _=>⟨row W n,k.lo hv⟩,k.b' y,fun h=>by
  have:=k.c' y h;obtain ⟨⟨g,x,e1,e2,e3,_⟩,h2⟩:=this;exact ⟨⟨g,x,e1,e2,e3,fun h=>no h10 h⟩,h2⟩,k.d' y,fun _ h=>new (k.b h).1.lt hv,fun _ h=>new (k.c h).1.lt hv,fun _ h=>new (k.d h).1.lt hv,k.bc,k.bd,k.cd,fun h=>no h10 h,k.q⟩
theorem n2b (k:PtK w0 n m L W v1 v2 v3 v4) (hL:L 7=false):PtK w0 n m (also L 7) (W.alloc (.cells (madeCells #[.int .i64 0] m) 3)) v1 (.slice (some ⟨W.heap.size,0,none⟩) m m) v3 v4:=by
 have y:Ext W (W.alloc (.cells (madeCells #[.int .i64 0] m) 3)):=Ext.alloc (Ext.refl W) _
 have hv:vb2 (.slice (some ⟨W.heap.size,0,none⟩) m m)=[W.heap.size]:=rfl
 have h11:L 11=false:=by
  cases e:L 11 with
  | false=>rfl
  | true=>exact no hL (k.q e).1
 exact ⟨k.ext.trans y,k.a' y,fun _=>⟨row W m,k.lo hv⟩,k.c' y,fun h=>by
  have:=k.d' y h;obtain ⟨⟨g,x,e1,e2,e3,_⟩,h2⟩:=this;exact ⟨⟨g,x,e1,e2,e3,fun h=>no h11 h⟩,h2⟩,fun h _=>old (k.a h).1.lt hv,k.ac,k.ad,fun _ h=>new (k.c h).1.lt hv,fun _ h=>new (k.d h).1.lt hv,k.cd,k.p,fun h=>no h11 h⟩
theorem W8b (k:PtK w0 n m L W v1 v2 v3 v4) (hL:L 8=false) (t:TypeId):PtK w0 n m (also L 8) (W.alloc (.cells #[.slice none 0 0] t)) v1 v2 (.pointer (some ⟨W.heap.size,0,none⟩)) v4:=by
 have y:Ext W (W.alloc (.cells #[.slice none 0 0] t)):=Ext.alloc (Ext.refl W) _
 have hv:vb2 (.pointer (some ⟨W.heap.size,0,none⟩))=[W.heap.size]:=rfl
 have h10:L 10=false:=by
  cases e:L 10 with
  | false=>rfl
  | true=>exact no hL (k.p e).2
 exact ⟨k.ext.trans y,k.a' y,k.b' y,fun _=>⟨box W _ _ t h10,k.lo hv⟩,k.d' y,k.ab,fun h _=>old (k.a h).1.lt hv,k.ad,fun h _=>old (k.b h).1.lt hv,k.bd,fun _ h=>new (k.d h).1.lt hv,fun h=>no h10 h,k.q⟩
theorem k6b (k:PtK w0 n m L W v1 v2 v3 v4) (hL:L 9=false) (t:TypeId):PtK w0 n m (also L 9) (W.alloc (.cells #[.slice none 0 0] t)) v1 v2 v3 (.pointer (some ⟨W.heap.size,0,none⟩)):=by
 have y:Ext W (W.alloc (.cells #[.slice none 0 0] t)):=Ext.alloc (Ext.refl W) _
 have hv:vb2 (.pointer (some ⟨W.heap.size,0,none⟩))=[W.heap.size]:=rfl
 have h11:L 11=false:=by
  cases e:L 11 with
  | false=>rfl
  | true=>exact no hL (k.q e).2
 exact ⟨k.ext.trans y,k.a' y,k.b' y,k.c' y,fun _=>⟨box W _ _ t h11,k.lo hv⟩,k.ab,k.ac,fun h _=>old (k.a h).1.lt hv,k.bc,fun h _=>old (k.b h).1.lt hv,fun h _=>old (k.c h).1.lt hv,k.p,fun h=>no h11 h⟩
theorem Q4b (k:PtK w0 n m L W v1 v2 (.pointer (some ⟨g,0,none⟩)) v4) (h3:L 3=true) (h8:L 8=true):PtK w0 n m (also L 10) (W.setCell ⟨g,0,none⟩ v1) v1 v2 (.pointer (some ⟨g,0,none⟩)) v4:=by
 have y:But [g] W (W.setCell ⟨g,0,none⟩ v1):=(But.refl _ _).setCell (.inl (by simp)) _
 have n1:∀ b ∈ [g],b ∉ vb2 v1:=fun b hb hm=>k.ac h3 h8 b hm (by rw [w8b.1 hb];simp [vb2])
 have n2:L 7=true -> ∀ b ∈ [g],b ∉ vb2 v2:=fun h b hb hm=>k.bc h h8 b hm (by rw [w8b.1 hb];simp [vb2])
 have n4:L 9=true -> ∀ b ∈ [g],b ∉ vb2 v4:=fun h b hb hm=>k.cd h8 h g (by simp [vb2]) (by rw [<- w8b.1 hb];exact hm)
 have hg:=(k.c h8).2 g (by simp [vb2])
 refine ⟨y.D3a k.ext fun b hb=>by rw [w8b.1 hb];exact hg,fun h=>⟨(k.a h).1.but y n1,(k.a h).2⟩,fun h=>⟨(k.b h).1.but y (n2 h),(k.b h).2⟩,fun h=>⟨?_,(k.c h).2⟩,fun h=>⟨(k.d h).1.but y (n4 h),(k.d h).2⟩,k.ab,k.ac,k.ad,k.bc,k.bd,k.cd,fun _=>⟨h3,h8⟩,k.q⟩
 obtain ⟨g',x,e1,e2,e3,_⟩:=(k.c h).1
 cases e1
 exact ⟨g,v1,rfl,by simp [go_sem,e2],by simp [go_sem,e3],fun _=>rfl⟩
theorem u0a (k:PtK w0 n m L W v1 v2 v3 (.pointer (some ⟨g,0,none⟩))) (h7:L 7=true) (h9:L 9=true):PtK w0 n m (also L 11) (W.setCell ⟨g,0,none⟩ v2) v1 v2 v3 (.pointer (some ⟨g,0,none⟩)):=by
 have y:But [g] W (W.setCell ⟨g,0,none⟩ v2):=(But.refl _ _).setCell (.inl (by simp)) _
 have n1:L 3=true -> ∀ b ∈ [g],b ∉ vb2 v1:=fun h b hb hm=>k.ad h h9 b hm (by rw [w8b.1 hb];simp [vb2])
 have n2:∀ b ∈ [g],b ∉ vb2 v2:=fun b hb hm=>k.bd h7 h9 b hm (by rw [w8b.1 hb];simp [vb2])
 have n3:L 8=true -> ∀ b ∈ [g],b ∉ vb2 v3:=fun h b hb hm=>k.cd h h9 b hm (by rw [w8b.1 hb];simp [vb2])
 have hg:=(k.d h9).2 g (by simp [vb2])
 refine ⟨y.D3a k.ext fun b hb=>by rw [w8b.1 hb];exact hg,fun h=>⟨(k.a h).1.but y (n1 h),(k.a h).2⟩,fun h=>⟨(k.b h).1.but y n2,(k.b h).2⟩,fun h=>⟨(k.c h).1.but y (n3 h),(k.c h).2⟩,fun h=>⟨?_,(k.d h).2⟩,k.ab,k.ac,k.ad,k.bc,k.bd,k.cd,k.p,fun _=>⟨h7,h9⟩⟩
 obtain ⟨g',x,e1,e2,e3,_⟩:=(k.d h).1
 cases e1
 exact ⟨g,v2,rfl,by simp [go_sem,e2],by simp [go_sem,e3],fun _=>rfl⟩
end PtK
open Go.RowKit Go.Maps
theorem Q3b {N:List Int} {r:Int} (h:r < 0) (hx:Hp.rd A (-1-r).toNat=some x):Nd.toA A N r=x:=by
 unfold Nd.toA
 rw [H5c h,q1b,show A[(-1-r).toNat]? = some x from hx]
 rfl
theorem U0b {N:List Int} {r:Int} (h:¬ r < 0) (hx:Hp.rd N r.toNat=some x):Nd.toA A N r=x:=by
 unfold Nd.toA
 rw [H4c h,q1b,show N[r.toNat]? = some x from hx]
 rfl
theorem put1 {g7 g8 ge gn:Nat} {N:List Int} {r:Int} (hn:A.length=n) (hm:N.length=m) (hn2:n<=1000) (hm2:m<=1000) (b7:w.cell? ⟨g7,0,none⟩=some (.slice (some ⟨ge,0,none⟩) n n)) (b8:w.cell? ⟨g8,0,none⟩=some (.slice (some ⟨gn,0,none⟩) m m)) (ra:A3a w ge A) (rn:A3a w gn N) (h1 : -1-r < n) (h2:r < m) :
    Calls prog 102 #[.int .i64 r,.pointer (some ⟨g7,0,none⟩),.pointer (some ⟨g8,0,none⟩)] w (Rt w (.int .i64 (Nd.toA A N r))):=by
  by_cases h0:r < 0
  . obtain ⟨x,hx⟩:=A4a (l:=A) (j:=(-1-r).toNat) (by omega);rw [Q3b h0 hx];obtain ⟨k,hk⟩:∃ k:Nat,-1-r=(k:Int):=⟨(-1-r).toNat,by omega⟩
    rw [hk,z5b] at hx;have q:=ra.get hx;have t0:decide (r < 0)=true:=E5c h0;have s1:IntKind.i64.wrap (-1-r)=(k:Int):=by rw [hk];exact E4c _ (by omega)
    have s2:wrap64 (-1-r)=(k:Int):=by rw [hk];exact z8b _ (by omega)
    have tk:decide ((k:Int) < (n:Int))=true:=dT;have zl:k < n:=by omega
    clear hx ra rn hn hm h1 h2 h0 hk;go_enter func102,ntmps102
    go_wp2_with fail
    go_returns;exact ⟨rfl,exx⟩
  obtain ⟨x,hx⟩:=A4a (l:=N) (j:=r.toNat) (by omega);rw [U0b h0 hx];obtain ⟨k,rfl⟩:∃ k:Nat,r=(k:Int):=⟨r.toNat,by omega⟩
  rw [z5b] at hx;have q:=rn.get hx;have t0:decide ((k:Int) < 0)=false:=D7c h0;have tk:decide ((k:Int) < (m:Int))=true:=dT;have zl:k < m:=by omega
  clear hx ra rn hn hm h1 h2 h0;go_enter func102,ntmps102
  go_wp2_with fail
  go_returns;exact ⟨rfl,exx⟩
structure PtSt (w wr:World) (hd:Hd) (S:Hp.Hs) (L:DgL) (d:Nd.Dia) (gd g7 g8 ge gn:Nat) (RA RN:List Int):Prop where
 now:Now w wr hd S
 rd:DgRd wr L d.sizes d.order d.ends d.nodes
 b7:wr.cell? ⟨g7,0,none⟩=some (.slice (some ⟨ge,0,none⟩) d.ends.length d.ends.length)
 b8:wr.cell? ⟨g8,0,none⟩=some (.slice (some ⟨gn,0,none⟩) d.nodes.length d.nodes.length)
 d2:wr.cell? ⟨gd,2,none⟩=some (.slice L.pe d.ends.length L.ce)
 d3:wr.cell? ⟨gd,3,none⟩=some (.slice L.pn d.nodes.length L.cn)
 d4:wr.cell? ⟨gd,4,none⟩=some (.int .i64 d.root)
 ra:A3a wr ge RA
 rn:A3a wr gn RN
 ne:ge ≠ gn/\g7 ≠ ge/\g7 ≠ gn/\g8 ≠ ge/\g8 ≠ gn/\gd ≠ ge/\gd ≠ gn
 lo:w.heap.size<=gd/\w.heap.size<=g7/\w.heap.size<=g8/\w.heap.size<=ge/\w.heap.size<=gn
 dl:∀ b ∈ L.blocks,b < w.heap.size/\b ∉ hd.own
 hl:∀ b ∈ hd.own,b < w.heap.size
 sl:(∀ b o,hd.sp=some ⟨b,o,none⟩->b < w.heap.size) /\ ∀ b o,hd.op=some ⟨b,o,none⟩->b < w.heap.size
namespace PtSt
variable {w wr w':World} {hd:Hd} {S S':Hp.Hs} {L:DgL} {d:Nd.Dia} {gd g7 g8 ge gn:Nat} {RA RN R':List Int}
theorem far (h:PtSt w wr hd S L d gd g7 g8 ge gn RA RN) {l:List Nat} (k:But l wr w') (hl:∀ b ∈ l,w.heap.size<=b/\b ≠ gd/\b ≠ g7/\b ≠ g8/\b ≠ ge/\b ≠ gn):PtSt w w' hd S L d gd g7 g8 ge gn RA RN:=by
 have old:∀ b,b < w.heap.size->b ∉ l:=fun b hb hm=>by have:=(hl b hm).1;omega
 have nd:gd ∉ l:=fun hm=>(hl _ hm).2.1 rfl
 have n7:g7 ∉ l:=fun hm=>(hl _ hm).2.2.1 rfl
 have n8:g8 ∉ l:=fun hm=>(hl _ hm).2.2.2.1 rfl
 have nge:ge ∉ l:=fun hm=>(hl _ hm).2.2.2.2.1 rfl
 have ngn:gn ∉ l:=fun hm=>(hl _ hm).2.2.2.2.2 rfl
 exact
  { h with
    now:=⟨h.now.toHAt.but k (old _ (h.hl _ (Hd.S2a _))) (old _ (h.hl _ (Hd.L6a _))) (old _ (h.hl _ (Hd.I7a _))) (fun b o e=>old b (h.sl.1 b o e)) (fun b o e=>old b (h.sl.2 b o e)),h.now.but.over k fun b hb=>.inr (hl b hb).1⟩
    rd:=h.rd.but k fun b hb hm=>by have:=(h.dl b hm).1;have:=(hl b hb).1;omega
    b7:=(k.cell (cell_lt h.b7) n7 0).trans h.b7
    b8:=(k.cell (cell_lt h.b8) n8 0).trans h.b8
    d2:=(k.cell (cell_lt h.d2) nd 2).trans h.d2
    d3:=(k.cell (cell_lt h.d3) nd 3).trans h.d3
    d4:=(k.cell (cell_lt h.d4) nd 4).trans h.d4
    ra:=h.ra.but k nge
    rn:=h.rn.but k ngn }
theorem ext (h:PtSt w wr hd S L d gd g7 g8 ge gn RA RN) (k:Ext wr w'):PtSt w w' hd S L d gd g7 g8 ge gn RA RN:=h.far (l:=[]) (But.E7a k) (by simp)
theorem heap (h:PtSt w wr hd S L d gd g7 g8 ge gn RA RN) (k:Now wr w' hd S'):PtSt w w' hd S' L d gd g7 g8 ge gn RA RN:=by
 have nb:∀ b,w.heap.size<=b->b ∉ hd.own:=fun b hb hm=>by have:=h.hl b hm;omega
 exact
  { h with
    now:=⟨k.toHAt,h.now.but.trans k.but⟩
    rd:=h.rd.but k.but fun b hb hm=>(h.dl b hm).2 hb
    b7:=(k.but.cell (cell_lt h.b7) (nb _ h.lo.2.1) 0).trans h.b7
    b8:=(k.but.cell (cell_lt h.b8) (nb _ h.lo.2.2.1) 0).trans h.b8
    d2:=(k.but.cell (cell_lt h.d2) (nb _ h.lo.1) 2).trans h.d2
    d3:=(k.but.cell (cell_lt h.d3) (nb _ h.lo.1) 3).trans h.d3
    d4:=(k.but.cell (cell_lt h.d4) (nb _ h.lo.1) 4).trans h.d4
    ra:=h.ra.but k.but (nb _ h.lo.2.2.2.1)
    rn:=h.rn.but k.but (nb _ h.lo.2.2.2.2) }
theorem setA (h:PtSt w wr hd S L d gd g7 g8 ge gn RA RN) (hw:Hp.wr RA j x=some R') (h1 : -9223372036854775808<=x) (h2:x<=9223372036854775807):PtSt w (wr.setCell ⟨ge,j,none⟩ (.int .i64 x)) hd S L d gd g7 g8 ge gn R' RN:=by
 have k:But [ge] wr (wr.setCell ⟨ge,j,none⟩ (.int .i64 x)):=(But.refl _ _).setCell (.inl (by simp)) _
 have old:∀ b,b < w.heap.size->b ∉ [ge]:=fun b hb hm=>by have:=h.lo.2.2.2.1;rw [w8b.1 hm] at hb;omega
 obtain ⟨e1,e2,e3,e4,e5,e6,e7⟩:=h.ne
 exact
  { h with
    now:=⟨h.now.toHAt.but k (old _ (h.hl _ (Hd.S2a _))) (old _ (h.hl _ (Hd.L6a _))) (old _ (h.hl _ (Hd.I7a _))) (fun b o e=>old b (h.sl.1 b o e)) (fun b o e=>old b (h.sl.2 b o e)),h.now.but.over k fun b hb=>.inr (by rw [w8b.1 hb];exact h.lo.2.2.2.1)⟩
    rd:=h.rd.but k fun b hb hm=>old b (h.dl b hm).1 hb
    b7:=(k.cell (cell_lt h.b7) (by simpa using e2) 0).trans h.b7
    b8:=(k.cell (cell_lt h.b8) (by simpa using e4) 0).trans h.b8
    d2:=(k.cell (cell_lt h.d2) (by simpa using e6) 2).trans h.d2
    d3:=(k.cell (cell_lt h.d3) (by simpa using e6) 3).trans h.d3
    d4:=(k.cell (cell_lt h.d4) (by simpa using e6) 4).trans h.d4
    ra:=h.ra.set hw h1 h2
    rn:=h.rn.but k (by simpa using fun e=>e1 (Eq.symm e)) }
theorem setN (h:PtSt w wr hd S L d gd g7 g8 ge gn RA RN) (hw:Hp.wr RN j x=some R') (h1 : -9223372036854775808<=x) (h2:x<=9223372036854775807):PtSt w (wr.setCell ⟨gn,j,none⟩ (.int .i64 x)) hd S L d gd g7 g8 ge gn RA R':=by
 have k:But [gn] wr (wr.setCell ⟨gn,j,none⟩ (.int .i64 x)):=(But.refl _ _).setCell (.inl (by simp)) _
 have old:∀ b,b < w.heap.size->b ∉ [gn]:=fun b hb hm=>by have:=h.lo.2.2.2.2;rw [w8b.1 hm] at hb;omega
 obtain ⟨e1,e2,e3,e4,e5,e6,e7⟩:=h.ne
 exact
  { h with
    now:=⟨h.now.toHAt.but k (old _ (h.hl _ (Hd.S2a _))) (old _ (h.hl _ (Hd.L6a _))) (old _ (h.hl _ (Hd.I7a _))) (fun b o e=>old b (h.sl.1 b o e)) (fun b o e=>old b (h.sl.2 b o e)),h.now.but.over k fun b hb=>.inr (by rw [w8b.1 hb];exact h.lo.2.2.2.2)⟩
    rd:=h.rd.but k fun b hb hm=>old b (h.dl b hm).1 hb
    b7:=(k.cell (cell_lt h.b7) (by simpa using e3) 0).trans h.b7
    b8:=(k.cell (cell_lt h.b8) (by simpa using e5) 0).trans h.b8
    d2:=(k.cell (cell_lt h.d2) (by simpa using e7) 2).trans h.d2
    d3:=(k.cell (cell_lt h.d3) (by simpa using e7) 3).trans h.d3
    d4:=(k.cell (cell_lt h.d4) (by simpa using e7) 4).trans h.d4
    ra:=h.ra.but k (by simpa using e1)
    rn:=h.rn.set hw h1 h2 }
end PtSt
def s0a (w:World) (hd:Hd) (x e:Int) (S:Hp.Hs) (r:Ending) (w':World):Prop:=r = .returned (.tuple #[.int .i64 x,.int .i64 e])/\Now w w' hd S
theorem k1b {hd:Hd} {L:DgL} {d:Nd.Dia} (h:HAt w hd S) (hr:DgRd w L d.sizes d.order d.ends d.nodes) (hN:W4a d L) (hc:E8a d ≠ 0) :
    Calls prog 37 #[.pointer (some ⟨hd.hb,0,none⟩),dgV L d.sizes.length d.order.length d.ends.length d.nodes.length d.root] w (s0a w hd 0 (E8a d) S):=by
  have H:=hZ (Now.refl h);have IM:=hZ (fun W (hE:Ext w W)=>C7a (h.ext hE));have CK:=hZ (fun W (hE:Ext w W)=>T6b (hr.ext hE) hN);have t0:(E8a d != 0)=true:=by simpa using hc
  clear h hr hN hc;generalize E8a d=ce at *;generalize d.sizes.length=n1 at *;generalize d.order.length=n2 at *;generalize d.ends.length=n3 at *;generalize d.nodes.length=n4 at *;generalize d.root=rt at *;unfold dgV DgL.cells at *;go_enter func37,ntmps37
  go_wp2_with (first
   | (go_at_call 72;refine m4_ (IM.out _ (exx)) fun w1 hb1 hc1 hf1 hs1=>?_;obtain ⟨hz1_0,hc1_0,hf1_0⟩:=c3_ hb1 w.heap.size)
   | (go_at_call 100;refine m4_ (CK.out _ (exx)) fun w2 hb2 hc2 hf2 hs2=>?_;obtain ⟨hz2_0,hc2_0,hf2_0⟩:=c3_ hb2 w.heap.size))
  go_returns;exact ⟨rfl,H.out.ext (exx)⟩
open Go.RowKit Go.Maps
theorem m0b {hd:Hd} {L:DgL} {d:Nd.Dia} (h:HAt w hd S) (hr:DgRd w L d.sizes d.order d.ends d.nodes) (hN:W4a d L) (hc:E8a d=0) (hne:¬ (d.sizes=S.sizes/\d.order=S.order)) :
    Calls prog 37 #[.pointer (some ⟨hd.hb,0,none⟩),dgV L d.sizes.length d.order.length d.ends.length d.nodes.length d.root] w (s0a w hd 0 2 S):=by
  have H:=hZ (Now.refl h);have IM:=hZ (fun W (hE:Ext w W)=>C7a (h.ext hE));have CK:=hZ (fun W (hE:Ext w W)=>T6b (hr.ext hE) hN);rw [hc] at CK;obtain ⟨b1,hb1⟩:∃ b1,decide (d.sizes=S.sizes)=b1:=⟨_,rfl⟩
  obtain ⟨b2,hb2⟩:∃ b2,decide (d.order=S.order)=b2:=⟨_,rfl⟩
  have hbb:¬ (b1=true/\b2=true):=by
   rintro ⟨rfl,rfl⟩;exact hne ⟨A2c hb1,A2c hb2⟩
  have ZZ:=hZ (fun W (hE:Ext w W)=>H2a hb1 (hr.ext hE).s (h.ext hE).sizes);have OO:=hZ (fun W (hE:Ext w W)=>H2a hb2 (hr.ext hE).o (h.ext hE).order);have c0:=h.c0;have c1:=h.c1;clear h hr hN hc hne hb1 hb2;generalize d.sizes.length=n1 at *;generalize d.order.length=n2 at *;generalize d.ends.length=n3 at *;generalize d.nodes.length=n4 at *;generalize S.sizes.length=m1 at *;generalize S.order.length=m2 at *;generalize d.root=rt at *;unfold dgV DgL.cells at *;have mixed:prog.follows .mixedOrders=true:=by kernel_rfl
  go_enter func37,ntmps37
  go_upto_region 6 with (first
   | (go_at_call 72;refine m4_ (IM.out _ (exx)) fun w1 hb1 hc1 hf1 hs1=>?_;obtain ⟨hz1_0,hc1_0,hf1_0⟩:=c3_ hb1 w.heap.size)
   | (go_at_call 100;refine m4_ (CK.out _ (exx)) fun w2 hb2 hc2 hf2 hs2=>?_;obtain ⟨hz2_0,hc2_0,hf2_0⟩:=c3_ hb2 w.heap.size))
  refine B0a (F:=fun W=>Hid (Ext w W)/\W.cell? ⟨w.heap.size,0,none⟩=some (.slice L.ps n1 L.cs)/\W.cell? ⟨w.heap.size,1,none⟩=some (.slice L.po n2 L.co)) ⟨hZ (exx),by go_simp,by go_simp⟩ ?_;intro w3 ⟨E3,g0,g1⟩;clear hb2 hc2 hf2 hs2 hz2_0 hc2_0 hf2_0 hb1 hc1 hf1 hs1 hz1_0 hc1_0 hf1_0;have q0:=E3.out.q c0;have q1:=E3.out.q c1;generalize w.heap.size=gd at g0 g1 ⊢;have zg:=cell_lt g0;have zq:=cell_lt q0
  cases b1 with
  | false=>
   have pr80a:=Ext.r g0;have pr80b:=Ext.r q0
   refine rg0 w3 ?_
   refine' tkd 0 ?_;refine' tkd 2 ?_;refine' tkd 4 ?_;refine' tkL 6 ?_;refine' tkR 7 (v:=.bool false) rfl (Or.inr ⟨by rfl,101,_, ?hx7_2070, ?hy7_2070⟩) ?rest7_2070
   case hx7_2070=>(intro w hSw;go_simp;try with_reducible rfl)
   case hy7_2070=>exact fun w hE=>(ZZ.out _ (E3.out.trans hE)).mono (fun _ _ h=>⟨h.1,h.2,Ext.trans hE h.2⟩)
   refine layy ?_;refine' tkd 8 ?_;refine A0a (by kernel_rfl) ?_ _;intro x4 _ Ex4;clear pr80a pr80b
   go_wp2_with fail
   go_returns;exact ⟨rfl,H.out.ext (E3.out.trans Ex4)⟩
  | true=>
   have hb2:b2=false:=by
    cases b2 with
    | false=>rfl
    | true=>exact absurd ⟨rfl,rfl⟩ hbb
   subst hb2;have pr81a:=Ext.r g0
   have pr81b:=Ext.r q0
   refine rg0 w3 ?_
   refine' tkd 0 ?_;refine' tkd 2 ?_;refine' tkd 4 ?_;refine' tkL 6 ?_;refine' tkR 7 (v:=.bool true) rfl (Or.inr ⟨by rfl,101,_, ?hx7_2080, ?hy7_2080⟩) ?rest7_2080
   case hx7_2080=>(intro w hSw;go_simp;try with_reducible rfl)
   case hy7_2080=>exact fun w hE=>(ZZ.out _ (E3.out.trans hE)).mono (fun _ _ h=>⟨h.1,h.2,Ext.trans hE h.2⟩)
   refine layy ?_;refine' tkd 8 ?_;refine A0a (by kernel_rfl) ?_ _;intro x4 _ Ex4;clear pr81a pr81b;have E4:=hZ (E3.out.trans Ex4);have g14:=Ex4.q g1;have q14:=Ex4.q q1;have zg4:=cell_lt g14;have zq4:=cell_lt q14;clear Ex4 g0 g1 q0 q1 zg zq;go_upto_region 7 with fail
   have pr82a:=Ext.r g14;have pr82b:=Ext.r q14
   refine rg0 x4 ?_
   refine' tkd 0 ?_;refine' tkd 2 ?_;refine' tkd 4 ?_;refine' tkL 6 ?_;refine' tkR 7 (v:=.bool false) rfl (Or.inr ⟨by rfl,101,_, ?hx7_2090, ?hy7_2090⟩) ?rest7_2090
   case hx7_2090=>(intro w hSw;go_simp;try with_reducible rfl)
   case hy7_2090=>exact fun w hE=>(OO.out _ (E4.out.trans hE)).mono (fun _ _ h=>⟨h.1,h.2,Ext.trans hE h.2⟩)
   refine layy ?_;refine' tkd 8 ?_;refine A0a (by kernel_rfl) ?_ _;intro x5 _ Ex5;clear pr82a pr82b
   go_wp2_with fail
   go_returns;exact ⟨rfl,H.out.ext (E4.out.trans Ex5)⟩
end Go.Proofs.YtdokmmhjmclmnaaGreat
