/- Part 38 of a proof. -/
import Derived.Test.YtdokmmhjmclmnaaGreatMU37
set_option linter.unusedSimpArgs false
set_option linter.unusedVariables false
set_option linter.unusedSectionVars false
set_option linter.unnecessarySimpa false
set_option maxHeartbeats 32000000
set_option maxRecDepth 100000
namespace Go.Proofs.YtdokmmhjmclmnaaGreat
open Go.Proofs.Tryz
variable {W' w w' w0 wb:World} {B a b bx c ca cap ce cn f g i j k lb m n qc:Nat} {choice e t x:Int} {A W fs ks l o z:List Int} {D T Y:List Nat} {p p2 pa pe pn q:Option Addr} {d:Hd} {S S':Hp.Hs} {r:Rd} {L:List Hp.Tl} {M:List (Nat × Int)} {s:Hp.Sc}
open Go.RowKit Go.Maps
theorem y1a {d:Nd.Dia} (h:E8a d=0):F6a d=0/\d.Is:=by
 unfold E8a at h
 split at h
 . rename_i h1;exact absurd h h1
 rename_i h1
 split at h
 . rename_i h2;exact ⟨by omega,h2⟩
 omega
theorem i5b {N:List Int} (ha:∀ x ∈ A,-9223372036854775808<=x/\x<=9223372036854775807) (hn:∀ x ∈ N,-9223372036854775808<=x/\x<=9223372036854775807) (k:Int) : -9223372036854775808<=Nd.toA A N k/\Nd.toA A N k<=9223372036854775807:=by
 unfold Nd.toA
 split
 . rw [q1b]
   cases h:A[(-1-k).toNat]? with
   | none=>simp
   | some x=>exact ha x (u1b h)
 rw [q1b]
 cases h:N[k.toNat]? with
 | none=>simp
 | some x=>exact hn x (u1b h)
theorem j4b {N:List Int} {k:Int} (h:k < N.length):Nd.toA A (N ++ List.replicate m 0) k=Nd.toA A N k:=by
 unfold Nd.toA
 split
 . rfl
 rw [q1b,q1b,q6b (by omega)]
theorem d8b {hd:Hd} {L:DgL} {d:Nd.Dia} {xr er:Int} (h:HAt w hd S) (hr:DgRd w L d.sizes d.order d.ends d.nodes) (hN:W4a d L) (hc:E8a d=0) (hz:d.sizes=S.sizes) (ho:d.order=S.order) (hg:Hp.Good S B) (hdl:∀ b ∈ L.blocks,b < w.heap.size/\b ∉ hd.own) (hp:Nd.put d S=some (xr,er,S')) :
    Calls prog 37 #[.pointer (some ⟨hd.hb,0,none⟩),dgV L d.sizes.length d.order.length d.ends.length d.nodes.length d.root] w (s0a w hd xr er S'):=by
  obtain ⟨hle,his⟩:=y1a hc;obtain ⟨hfr,hlb⟩:=Z6a hle;obtain ⟨hlow,hroot⟩:=P5a hlb;have hin:=g7a (Hp.H8a hfr).1 hlb hN;have H:=hZ (Now.refl h);have HR:=hZ hr;have IM:=hZ (fun W (hE:Ext w W)=>C7a (h.ext hE));have CK:=hZ (fun W (hE:Ext w W)=>T6b (hr.ext hE) hN);rw [hc] at CK;have ZZ:=hZ (fun W (hE:Ext w W)=>H2a (b:=true) (E5c hz) (hr.ext hE).s (h.ext hE).sizes);have OO:=hZ (fun W (hE:Ext w W)=>H2a (b:=true) (E5c ho) (hr.ext hE).o (h.ext hE).order);have c0:=h.c0;have c1:=h.c1;have OL:=hZ (show (∀ b ∈ hd.own,b < w.heap.size)/\(∀ b o,hd.sp=some ⟨b,o,none⟩->b < w.heap.size) /\ ∀ b o,hd.op=some ⟨b,o,none⟩->b < w.heap.size from ⟨h.D1a,h.old1,h.old2⟩);have HIN:=hZ hin;have HROOT:=hZ hroot;have HDL:=hZ hdl;have HP:=hZ hp;have HG:=hZ hg;have sle:=hr.s.le;have ole:=hr.o.le;have l3:=hr.e.le;have l4:=hr.n.le;rw [C6c] at l3;rw [A7a hr.kl] at l4;have el:=hin.el;have nl:=hin.nl;obtain ⟨n1,h1⟩:∃ n,d.sizes.length=n:=⟨_,rfl⟩
  obtain ⟨n2,h2⟩:∃ n,d.order.length=n:=⟨_,rfl⟩
  obtain ⟨n3,h3⟩:∃ n,d.ends.length=n:=⟨_,rfl⟩
  obtain ⟨n4,h4⟩:∃ n,d.nodes.length=n:=⟨_,rfl⟩
  obtain ⟨rt,h5⟩:∃ n,d.root=n:=⟨_,rfl⟩
  have HQ:=hZ (show d.ends.length=n3/\d.nodes.length=n4/\d.root=rt from ⟨h3,h4,h5⟩);rw [h1] at ZZ;rw [h2] at OO;rw [h1,h2,h3,h4,h5] at CK ⊢;rw [h3] at l3 el;rw [h4] at l4 nl;clear h hr hN hc hz ho hg hdl hp hle his hfr hlb hlow hroot hin h1 h2 h3 h4 h5;generalize S.sizes.length=m1 at *;generalize S.order.length=m2 at *;obtain ⟨ps,cs,po,co,pe,ce,pn,cn,K⟩:=L;unfold dgV DgL.cells at *;simp only at *;have mixed:prog.follows .mixedOrders=true:=by kernel_rfl
  go_enter func37,ntmps37
  go_upto_region 6 with (first
   | (go_at_call 72;refine m4_ (IM.out _ (exx)) fun w1 hb1 hc1 hf1 hs1=>?_;obtain ⟨hz1_0,hc1_0,hf1_0⟩:=c3_ hb1 w.heap.size)
   | (go_at_call 100;refine m4_ (CK.out _ (exx)) fun w2 hb2 hc2 hf2 hs2=>?_;obtain ⟨hz2_0,hc2_0,hf2_0⟩:=c3_ hb2 w.heap.size))
  refine B0a (F:=fun W=>Hid (Ext w W)/\W.cell? ⟨w.heap.size,0,none⟩=some (.slice ps n1 cs)/\W.cell? ⟨w.heap.size,1,none⟩=some (.slice po n2 co)/\W.cell? ⟨w.heap.size,2,none⟩=some (.slice pe n3 ce)/\W.cell? ⟨w.heap.size,3,none⟩=some (.slice pn n4 cn)/\W.cell? ⟨w.heap.size,4,none⟩=some (.int .i64 rt)) ⟨hZ (exx),by go_simp,by go_simp,by go_simp,by go_simp,by go_simp⟩ ?_;intro w3 ⟨E3,g0,g1,g2,g3,g4⟩;clear hb2 hc2 hf2 hs2 hz2_0 hc2_0 hf2_0 hb1 hc1 hf1 hs1 hz1_0 hc1_0 hf1_0 IM CK;have q0:=E3.out.q c0;have q1:=E3.out.q c1;generalize hgd:w.heap.size=gd at g0 g1 g2 g3 g4 ⊢;have HGD:=hZ hgd;clear hgd c0 c1;have zg:=cell_lt g0;have zq:=cell_lt q0;have pr83a:=Ext.r g0
  have pr83b:=Ext.r q0
  refine rg0 w3 ?_
  refine' tkd 0 ?_;refine' tkd 2 ?_;refine' tkd 4 ?_;refine' tkL 6 ?_;refine' tkR 7 (v:=.bool true) rfl (Or.inr ⟨by rfl,101,_, ?hx7_2100, ?hy7_2100⟩) ?rest7_2100
  case hx7_2100=>(intro w hSw;go_simp;try with_reducible rfl)
  case hy7_2100=>exact fun w hE=>(ZZ.out _ (E3.out.trans hE)).mono (fun _ _ h=>⟨h.1,h.2,Ext.trans hE h.2⟩)
  refine layy ?_;refine' tkd 8 ?_;refine A0a (by kernel_rfl) ?_ _;intro x4 _ Ex4;clear pr83a pr83b;have E4:=hZ (E3.out.trans Ex4);have g14:=Ex4.q g1;have g24:=Ex4.q g2;have g34:=Ex4.q g3;have g44:=Ex4.q g4;have q14:=Ex4.q q1;have zg4:=cell_lt g14;have zq4:=cell_lt q14;clear Ex4 g0 g1 g2 g3 g4 q0 q1 zg zq ZZ;go_upto_region 7 with fail
  have pr84a:=Ext.r g14;have pr84b:=Ext.r q14
  refine rg0 x4 ?_
  refine' tkd 0 ?_;refine' tkd 2 ?_;refine' tkd 4 ?_;refine' tkL 6 ?_;refine' tkR 7 (v:=.bool true) rfl (Or.inr ⟨by rfl,101,_, ?hx7_2110, ?hy7_2110⟩) ?rest7_2110
  case hx7_2110=>(intro w hSw;go_simp;try with_reducible rfl)
  case hy7_2110=>exact fun w hE=>(OO.out _ (E4.out.trans hE)).mono (fun _ _ h=>⟨h.1,h.2,Ext.trans hE h.2⟩)
  refine layy ?_;refine' tkd 8 ?_;refine A0a (by kernel_rfl) ?_ _;intro x5 _ Ex5;clear pr84a pr84b;have E5:=hZ (E4.out.trans Ex5);have g2:=Ex5.q g24;have g3:=Ex5.q g34;have g4:=Ex5.q g44;have zg:=cell_lt g2;clear Ex5 g14 g24 g34 g44 q14 zg4 zq4 OO E3 E4;go_upto_region 9 with fail
  have hmk1:=run_make_row' (P:=prog) 22 3 (.int .i64 0) 8 underlying22 (show (prog.info? 3).map (fun i=>(i.zero,i.size,i.bytes))=some (some (.int .i64 0),1,8) from by kernel_rfl) rfl .i64 .i64 n3 (by omega) (by omega);have hmk2:=run_make_row' (P:=prog) 22 3 (.int .i64 0) 8 underlying22 (show (prog.info? 3).map (fun i=>(i.zero,i.size,i.bytes))=some (some (.int .i64 0),1,8) from by kernel_rfl) rfl .i64 .i64 n4 (by omega) (by omega);have PR85:=hZ (fun (ww:World) (hSw:Ext x5 ww)=>And.intro (hSw.q g2) (hSw.q g3));refine wp_region_held_drew (S:=fun W=>Ext x5 W) (by kernel_rfl) ?_ (fun hS=>?_)
  . exact exx
  skip
  refine' wpAnyH_take (i:=0) (v:=?v0_2113) rfl (by kernel_rfl) (by kernel_rfl) (by kernel_rfl) (fun _ _ _ h=>h) (Or.inl ⟨by rfl, ?hy0_2113⟩) (by assumption) ?rest0_2113
  case hy0_2113=>(intro w q;obtain ⟨g2',g3'⟩:=PR85.out w q;go_simp;try with_reducible rfl)
  refine layy ?_;refine' wpAnyH_take (i:=1) (v:=?v1_2114) rfl (by kernel_rfl) (by kernel_rfl) (by kernel_rfl) (fun _ _ _ h=>h) (Or.inl ⟨by rfl, ?hy1_2114⟩) (by assumption) ?rest1_2114
  case hy1_2114=>(intro w q;obtain ⟨g2',g3'⟩:=PR85.out w q;go_simp;try with_reducible rfl)
  refine layy ?_;refine' wpAnyH_take (i:=2) (v:=?v2_2115) rfl (by kernel_rfl) (by kernel_rfl) (by kernel_rfl) (fun _ _ _ h=>h) (Or.inl ⟨by rfl, ?hy2_2115⟩) (by assumption) ?rest2_2115
  case hy2_2115=>(intro w q;obtain ⟨g2',g3'⟩:=PR85.out w q;go_simp;try with_reducible rfl)
  refine layy ?_;refine' wpAnyH_take (i:=4) (v:=?v4_2116) rfl (by kernel_rfl) (by kernel_rfl) (by kernel_rfl) (fun _ _ _ h=>h) (Or.inl ⟨by rfl, ?hy4_2116⟩) (by assumption) ?rest4_2116
  case hy4_2116=>(intro w q;obtain ⟨g2',g3'⟩:=PR85.out w q;go_simp;try with_reducible rfl)
  refine layy ?_;refine' wpAnyH_take (i:=5) (v:=?v5_2117) rfl (by kernel_rfl) (by kernel_rfl) (by kernel_rfl) (fun _ _ _ h=>h) (Or.inl ⟨by rfl, ?hy5_2117⟩) (by assumption) ?rest5_2117
  case hy5_2117=>(intro w q;obtain ⟨g2',g3'⟩:=PR85.out w q;go_simp;try with_reducible rfl)
  refine layy ?_;refine' wpAnyH_take (i:=6) (v:=?v6_2118) rfl (by kernel_rfl) (by kernel_rfl) (by kernel_rfl) (fun _ _ _ h=>h) (Or.inl ⟨by rfl, ?hy6_2118⟩) (by assumption) ?rest6_2118
  case hy6_2118=>(intro w q;obtain ⟨g2',g3'⟩:=PR85.out w q;go_simp;try with_reducible rfl)
  refine layy ?_;refine T2a [3,7,8,9,10,11] [48,52,7,8] (fun L vs W=>∃ v1 v2 v3 v4:Value,vs=[v1,v2,v3,v4]/\Ext x5 W/\PtK x5 n3 n4 L W v1 v2 v3 v4) (by kernel_rfl) (by kernel_rfl) ?h0 ?hsteps ?hend
  case h0=>exact ⟨_,_,_,_,rfl,hS,⟨hS,fun h=>(by cases h),fun h=>(by cases h),fun h=>(by cases h),fun h=>(by cases h),fun h=>(by cases h),fun h=>(by cases h),fun h=>(by cases h),fun h=>(by cases h),fun h=>(by cases h),fun h=>(by cases h),fun h=>(by cases h),fun h=>(by cases h)⟩⟩
  case hsteps=>
   refine B2a.cons rfl ?_ (B2a.cons rfl ?_ (B2a.cons rfl ?_ (B2a.cons rfl ?_ (B2a.cons rfl ?_ (B2a.cons rfl ?_ B2a.nil)))))
   all_goals (try simp only [u2b,s3b,s4b])
   all_goals
    rintro L a w ⟨vs,ha,v1,v2,v3,v4,rfl,hE,J⟩ hL hC;obtain rfl:=ha;intro K' hK
    (try simp only [T9a,Act.put,q2b,w6b,w7b])
   . go_simp;exact hK.out _ _ (hE.alloc _) ⟨[.slice (some ⟨w.heap.size,0,none⟩) n3 n3,v2,v3,v4],rfl,_,_,_,_,rfl,hE.alloc _,J.step3 hL⟩
   . go_simp;exact hK.out _ _ (hE.alloc _) ⟨[v1,.slice (some ⟨w.heap.size,0,none⟩) n4 n4,v3,v4],rfl,_,_,_,_,rfl,hE.alloc _,J.n2b hL⟩
   . go_simp;exact hK.out _ _ (hE.alloc _) ⟨[v1,v2,.pointer (some ⟨w.heap.size,0,none⟩),v4],rfl,_,_,_,_,rfl,hE.alloc _,J.W8b hL _⟩
   . go_simp;exact hK.out _ _ (hE.alloc _) ⟨[v1,v2,v3,.pointer (some ⟨w.heap.size,0,none⟩)],rfl,_,_,_,_,rfl,hE.alloc _,J.k6b hL _⟩
   . have h3:L 3=true:=hC ⟨3,.data⟩ (by simp) rfl;have h8:L 8=true:=hC ⟨8,.data⟩ (by simp) rfl;obtain ⟨⟨g,y,rfl,p1,p2,-⟩,p3⟩:=J.c h8;have hg:=p3 g (by simp [vb2]);obtain ⟨⟨gr,rfl,-⟩,-⟩:=J.a h3;go_simp;exact hK.out _ _ (Ext.setCell hE (p:=⟨g,0,none⟩) hg _) ⟨[_,v2,_,v4],rfl,_,_,_,_,rfl,Ext.setCell hE (p:=⟨g,0,none⟩) hg _,J.Q4b h3 h8⟩
   have h7:L 7=true:=hC ⟨7,.data⟩ (by simp) rfl;have h9:L 9=true:=hC ⟨9,.data⟩ (by simp) rfl;obtain ⟨⟨g,y,rfl,p1,p2,-⟩,p3⟩:=J.d h9;have hg:=p3 g (by simp [vb2]);obtain ⟨⟨gr,rfl,-⟩,-⟩:=J.b h7;go_simp;exact hK.out _ _ (Ext.setCell hE (p:=⟨g,0,none⟩) hg _) ⟨[v1,_,v3,_],rfl,_,_,_,_,rfl,Ext.setCell hE (p:=⟨g,0,none⟩) hg _,J.u0a h7 h9⟩
  rintro LL _ w9 ⟨v1,v2,v3,v4,rfl,E9,J⟩ hall;have j3:=hall 3 (by simp);have j7:=hall 7 (by simp);have j8:=hall 8 (by simp);have j9:=hall 9 (by simp);have j10:=hall 10 (by simp);have j11:=hall 11 (by simp);have ab:=J.ab j3 j7;have ac:=J.ac j3 j8;have ad:=J.ad j3 j9;have bc:=J.bc j7 j8;have bd:=J.bd j7 j9;obtain ⟨⟨ge,rfl,ra⟩,la⟩:=J.a j3;obtain ⟨⟨gn,rfl,rn⟩,lb⟩:=J.b j7;obtain ⟨⟨g7,y7,rfl,c7,z7,e7⟩,lc⟩:=J.c j8;obtain ⟨⟨g8,y8,rfl,c8,z8,e8⟩,ld⟩:=J.d j9;rw [e7 j10] at c7;rw [e8 j11] at c8;have E59:=E5.out.trans E9;have P0:=hZ (show PtSt w w9 hd S ⟨ps,cs,po,co,pe,ce,pn,cn,K⟩ d gd g7 g8 ge gn ([] ++ List.replicate (n3-0) 0) (List.replicate n4 0) from by
   simp only [vb2,blk,w8b,forall_eq] at ab ac ad bc bd la lb lc ld;have h1:=E5.out.le;have h2:=HGD.out
   exact
    { now:=H.out.ext E59
      rd:=HR.out.ext E59
      b7:=by rw [HQ.out.1];exact c7
      b8:=by rw [HQ.out.2.1];exact c8
      d2:=by rw [HQ.out.1];exact E9.q g2
      d3:=by rw [HQ.out.2.1];exact E9.q g3
      d4:=by rw [HQ.out.2.2];exact E9.q g4
      ra:=ra
      rn:=rn
      ne:=by omega
      lo:=by omega
      dl:=HDL.out
      hl:=OL.out.1
      sl:=OL.out.2 })
  clear J hall ab ac ad bc bd la lb lc ld ra rn c7 c8 z7 z8 e7 e8 j3 j7 j8 j9 j10 j11 E59 E9 E5 g2 g3 g4 zg hS hmk1 hmk2;simp only [T9a,Act.put,q2b,w6b,w7b];have b2:=P0.out.d2;rw [HQ.out.1] at b2;simp only at b2
  go_wp2_with fail
  clear b2
  go_loopg [57] n3 (fun g' iv wr=>∃ (j:Nat) (Sj:Hp.Hs) (A:List Int),j<=n3/\n3-j<=g'/\iv = .int .i64 j/\Hid (PtSt w wr hd Sj ⟨ps,cs,po,co,pe,ce,pn,cn,K⟩ d gd g7 g8 ge gn (A ++ List.replicate (n3-j) 0) (List.replicate n4 0))/\Aside (A.length=j)/\Aside (Nd.putE S d.ends []=Nd.putE Sj (d.ends.drop j) A)/\Aside (Hp.Good Sj B))
  case atStart=>exact ⟨0,S,[],G9c _,by omega,rfl,P0,rfl,rfl,HG.out⟩
  case round=>
   obtain ⟨j,Sj,A,hj,hg,rfl,PJ,AL,EQ,GJ⟩:=hrel;clear P0
   by_cases hlt:j < n3
   . have tk:decide ((j:Int) < (n3:Int))=true:=dT;obtain ⟨v,hv⟩:=A5a (E:=d.ends) (j:=j) (by rw [HQ.out.1];exact hlt);obtain ⟨be,oe,hpe,hbe,hce⟩:=PJ.out.rd.e.L0a (by rw [HQ.out.1];omega);simp only at hpe;subst hpe;obtain ⟨q1,q2⟩:=hce j v hv;have hov:=HIN.out.ends v (u1b hv);obtain ⟨v1,n⟩:=v;obtain ⟨⟨f1,f2⟩,f3,f4⟩:=hov;simp only at q1 q2 f1 f2 f3 f4;obtain ⟨f,rfl⟩:∃ f:Nat,v1=(f:Int):=⟨v1.toNat,by omega⟩
     obtain ⟨a,er1,S1,h1,k1,k2⟩:=Hp.f5a GJ.out (fault:=(f:Int)) (n:=n) (by omega);have sm:=i2a PJ.out.now.small h1;have EA:=hZ (fun W (hA:HAt W hd Sj)=>C5b hA (f:=f) (n:=n) (by omega) f3 f4 h1);have HV:=hZ hv;have H1:=hZ h1;have K1:=hZ k1;clear hv hce f3 f4 h1 k1 k2;go_upto_region 14 with fail
     refine B0a (F:=fun W=>Hid (PtSt w W hd Sj ⟨ps,cs,po,co,some ⟨be,oe,none⟩,ce,pn,cn,K⟩ d gd g7 g8 ge gn (A ++ List.replicate (n3-j) 0) (List.replicate n4 0))/\W.cell? ⟨wr.heap.size,0,none⟩=some (.int .u8 f)/\W.cell? ⟨wr.heap.size,1,none⟩=some (.int .i64 n)) ⟨hZ (PJ.out.ext exx),by go_simp,by go_simp⟩ ?_;intro w2 ⟨P2,x0,x1⟩;have GV:=hZ (show wr.heap.size ∉ hd.own/\wr.heap.size ≠ ge from ⟨fun hm=>by have h1:=PJ.out.hl _ hm;have h2:=PJ.out.now.but.size;omega,fun e=>by have:=PJ.out.ra.lt;omega⟩);clear q1 q2;generalize wr.heap.size=gv at x0 x1 GV ⊢;have b7:=P2.out.b7;rw [HQ.out.1] at b7;refine D4a (S:=fun W=>W.cell? ⟨g7,0,none⟩=some (.slice (some ⟨ge,0,none⟩) n3 n3)/\W.cell? ⟨gv,0,none⟩=some (.int .u8 f)/\W.cell? ⟨gv,1,none⟩=some (.int .i64 n)) (R:=Eq) (by kernel_rfl) (fun _=>rfl) ?_ ?_
     . exact ⟨b7,x0,x1⟩
     refine' tkr 0 ?_ (hy:=by intro w hSw;(obtain ⟨s1,s2,s3⟩:=hSw);go_simp;try with_reducible rfl);refine' tkr 1 ?_ (hy:=by intro w hSw;(obtain ⟨s1,s2,s3⟩:=hSw);go_simp;try with_reducible rfl);refine' tkr 2 ?_ (hy:=by intro w hSw;(obtain ⟨s1,s2,s3⟩:=hSw);go_simp;try with_reducible rfl);refine' tkr 3 ?_ (hy:=by intro w hSw;(obtain ⟨s1,s2,s3⟩:=hSw);go_simp;try with_reducible rfl);refine H5a 4 (f:=43) (args:=#[.pointer (some ⟨hd.hb,0,none⟩),.agg #[.int .u8 f,.int .i64 n]]) rfl (by kernel_rfl) (by rfl) ?run4 ?call4
     case run4=>go_simp
     have P2d:=hZ (P2.out.ext (Ext.drew (Ext.refl w2)));refine (EA.out _ P2d.out.now.toHAt).mono ?_;rintro e4 w4 ⟨rfl,N4⟩;have P4:=hZ (P2d.out.heap N4);have b74:=P4.out.b7;rw [HQ.out.1] at b74;have x04:=(N4.but.cell (cell_lt (show w2.drew.cell? ⟨gv,0,none⟩=_ from x0)) GV.out.1 0).trans x0;have x14:=(N4.but.cell (cell_lt (show w2.drew.cell? ⟨gv,0,none⟩=_ from x0)) GV.out.1 1).trans x1;refine ⟨.tuple #[.int .i64 a,.int .i64 er1],rfl,⟨b74,x04,x14⟩, ?_⟩;clear N4 x0 x1 b7 P2 P2d EA;refine layy ?_;refine' tkr 5 ?_;refine' tkr 6 ?_;refine' tkr 7 ?_;refine' tkr 8 ?_;have qj:=P4.out.ra.get (q3a AL.out hlt);have fj:=P4.out.ra.froz j;have P5:=hZ (P4.out.setA (s5a (x:=a) AL.out hlt) (by omega) (by omega));have b75:=P5.out.b7;rw [HQ.out.1] at b75;have B5:But [ge] w4 (w4.setCell ⟨ge,j,none⟩ (.int .i64 a)):=(But.refl _ _).setCell (.inl (by simp)) _;have x05:=(B5.cell (cell_lt x04) (by simpa using GV.out.2) 0).trans x04;have x15:=(B5.cell (cell_lt x04) (by simpa using GV.out.2) 1).trans x14;refine V4a 9 (w':=w4.setCell ⟨ge,j,none⟩ (.int .i64 a)) rfl (by kernel_rfl) (by rfl) ?run9 ⟨b75,x05,x15⟩ ?next9
     case run9=>go_simp
     clear qj fj B5 x04 x14 b74 b75 x05 x15 P4;refine layy ?_;refine' tkr 10 ?_;refine A0a (by kernel_rfl) ?_ _;intro w6 e6 _;rw [e6] at P5;clear e6
     by_cases e0:er1=0
     . subst e0
       go_wp2_with fail
       go_roundg (n3-(j+1))
       case measure=>omega
       case rel=>exact ⟨j+1,S1,A ++ [a],by omega,H0c _,by go_num,P5,(show Aside _ from by rw [w2b,AL.out];rfl),(show Nd.putE S d.ends []=Nd.putE S1 (d.ends.drop (j+1)) (A ++ [a]) from by rw [EQ.out,Nd.drop_cons HV.out];simp [Nd.putE,H1.out]),(show Aside _ from K1.out)⟩
     have t0:(er1 != 0)=true:=by simpa using e0
     have HE0:=hZ e0;clear e0
     go_wp2_with fail
     go_returns;have hput:Nd.put d S=some (0,er1,S1):=by
      unfold Nd.put;rw [EQ.out,Nd.drop_cons HV.out];simp [Nd.putE,H1.out,HE0.out]
     have:=HP.out;rw [hput] at this;simp only [z7b,F1c] at this;obtain ⟨rfl,rfl,rfl⟩:=this;exact ⟨rfl,P5.out.now⟩
   have:j=n3:=by omega
   subst this;have tk:decide ((j:Int) < (j:Int))=false:=dF;have EQ2:Nd.putE S d.ends []=some (0,A,Sj):=by
    rw [EQ.out,s5b (by rw [HQ.out.1];exact H0c _)];rfl
   have HPU:=hZ (show ∀ e N Sn,Nd.putN A Sj d.nodes []=some (e,N,Sn)->Nd.put d S=(if e ≠ 0 then some (0,e,Sn) else some (Nd.toA A N d.root,0,Sn)) from fun e N Sn h=>by
    unfold Nd.put;rw [EQ2];simp [h])
   rw [G1c,v4b,C7c] at PJ;have PJ0:Hid (PtSt w wr hd Sj ⟨ps,cs,po,co,pe,ce,pn,cn,K⟩ d gd g7 g8 ge gn A ([] ++ List.replicate (n4-0) 0)):=PJ;have b3:=PJ.out.d3;rw [HQ.out.2.1] at b3;simp only at b3;clear EQ EQ2 PJ
   go_wp2_with fail
   clear b3
   go_loopg [78] n4 (fun g' iv wr=>∃ (i:Nat) (Si:Hp.Hs) (N:List Int),i<=n4/\n4-i<=g'/\iv = .int .i64 i/\Hid (PtSt w wr hd Si ⟨ps,cs,po,co,pe,ce,pn,cn,K⟩ d gd g7 g8 ge gn A (N ++ List.replicate (n4-i) 0))/\Aside (N.length=i)/\Aside (Nd.putN A Sj d.nodes []=Nd.putN A Si (d.nodes.drop i) N)/\Aside (Hp.Good Si B))
   case atStart=>exact ⟨0,Sj,[],G9c _,by omega,rfl,PJ0,rfl,rfl,GJ.out⟩
   case round=>
    obtain ⟨i,Si,N,hi,hg2,rfl,PI,NL,EN,GI⟩:=hrel;clear PJ0
    by_cases hlti:i < n4
    . have tki:decide ((i:Int) < (n4:Int))=true:=dT;obtain ⟨q,hq⟩:=A5a (E:=d.nodes) (j:=i) (by rw [HQ.out.2.1];exact hlti);obtain ⟨⟨kp,kc⟩,hkk⟩:=A5a (E:=K) (j:=i) (by have:=PI.out.rd.kl;simp only at this;rw [this,HQ.out.2.1];exact hlti);obtain ⟨bn,on,hpn,hbn,hcn⟩:=PI.out.rd.node_cells (by rw [HQ.out.2.1];omega);simp only at hpn;subst hpn;obtain ⟨q1,q2⟩:=hcn i q _ hq hkk;have SK:=PI.out.rd.ks i q _ hq hkk;have hqm:=u1b hq;have hq0:0 < q.2.length:=v2b.2 (HIN.out.k0 q hqm);have hq12:=HIN.out.k12 q hqm;have hqv:=HIN.out.var q hqm
      have hlow:∀ k ∈ q.2,d.Ref k i:=fun k hk=>HIN.out.low i (by rw [HQ.out.2.1];exact hlti) k (by
       have:d.nodeAt i=q:=by unfold Nd.Dia.nodeAt;rw [hq];rfl
       rw [this];exact hk)
      obtain ⟨bk,okk,ekp,hbk,hck⟩:=SK.cells hq0;simp only at ekp;subst ekp;have skle:=SK.le;have skcap:=SK.cap;obtain ⟨v,ks⟩:=q;simp only at q1 q2 hq0 hq12 hqv hlow hck skle skcap;obtain ⟨nk,hnk⟩:∃ n,ks.length=n:=⟨_,rfl⟩
      have HNK:=hZ hnk;rw [hnk] at q2 hq0 hq12 skle;have HLOW:=hZ hlow;have HQQ:=hZ hq;have HKK:=hZ hkk;have hbdA:∀ x ∈ A,-9223372036854775808<=x/\x<=9223372036854775807:=PI.out.ra.wf
      have hbdN:∀ x ∈ N,-9223372036854775808<=x/\x<=9223372036854775807:=fun x hx=>PI.out.rn.wf x (C4c.2 (.inl hx))
      have HTA:=hZ (i5b hbdA hbdN);obtain ⟨a,er1,S1,h1,k1,k2⟩:=Hp.Z7a GI.out v (ks.map (Nd.toA A N));have sm:=C1b PI.out.now.small (fun x hx=>by obtain ⟨k,_,rfl⟩:=F7c.1 hx;exact HTA.out k) h1;have H1:=hZ h1;have K1:=hZ k1;have HSM:=hZ sm
      have MA:=hZ (fun W g (hA:HAt W hd Si) (hR:A3a W g (ks.map (Nd.toA A N))) (hgo:g ∉ hd.own)=>(by
       have:=s9a hA (hR.sl (by rw [C6c,HNK.out];omega)) (fun b o e hm=>by cases e;exact hgo hm) hqv.1 hqv.2 H1.out;rw [C6c,HNK.out] at this;exact this:Calls prog 44 #[.pointer (some ⟨hd.hb,0,none⟩),.int .i64 v,.slice (some ⟨g,0,none⟩) nk nk] W (Added hd W (a,er1,S1))))
      have hmk3:=run_make_row' (P:=prog) 22 3 (.int .i64 0) 8 underlying22 (show (prog.info? 3).map (fun i=>(i.zero,i.size,i.bytes))=some (some (.int .i64 0),1,8) from by kernel_rfl) rfl .i64 .i64 nk (by omega) (by omega);clear hq hkk hcn SK hqm hlow hbk hck hnk hbdA hbdN h1 k1 k2 sm
      go_wp2_with fail
      clear hmk3;refine B0a (F:=fun W=>Hid (PtSt w W hd Si ⟨ps,cs,po,co,pe,ce,some ⟨bn,on,none⟩,cn,K⟩ d gd g7 g8 ge gn A (N ++ List.replicate (n4-i) 0))/\W.cell? ⟨wr.heap.size,0,none⟩=some (.int .i64 v)/\Hid (A3a W (wr.heap.size+1) (List.replicate nk 0))) ⟨hZ (PI.out.ext exx),by go_simp,hZ (P4a _ nk _ (by simp))⟩ ?_;intro w2 ⟨P2,x0,W2⟩;have GV:=hZ (show ∀ b,wr.heap.size<=b->w.heap.size<=b/\b ∉ hd.own/\b ≠ gd/\b ≠ g7/\b ≠ g8/\b ≠ ge/\b ≠ gn from fun b hb=>by
       have h2:=PI.out.now.but.size;have h3:=cell_lt PI.out.d2;have h4:=cell_lt PI.out.b7;have h5:=cell_lt PI.out.b8;have h6:=PI.out.ra.lt;have h7:=PI.out.rn.lt;refine ⟨by omega,fun hm=>by have h1:=PI.out.hl _ hm;omega,by omega,by omega,by omega,by omega,by omega⟩)
      have GB:=hZ (GV.out wr.heap.size (H0c _));have GK:=hZ (GV.out (wr.heap.size+1) (by omega));have BK:=hZ (show wr.heap.size ≠ wr.heap.size+1 from by omega);clear q1 q2 GV;generalize wr.heap.size+1=gr at W2 GK BK ⊢;generalize wr.heap.size=bb at x0 GB BK ⊢;have PK0:Hid (PtSt w w2 hd Si ⟨ps,cs,po,co,pe,ce,some ⟨bn,on,none⟩,cn,K⟩ d gd g7 g8 ge gn A (N ++ List.replicate (n4-i) 0)):=P2;have W20:Hid (A3a w2 gr ((ks.map (Nd.toA A N)).take 0 ++ List.replicate (nk-0) 0)):=W2;have X0:Hid (w2.cell? ⟨bb,0,none⟩=some (.int .i64 v)):=hZ x0;clear P2 W2 x0 PI
      go_loopg [90] nk (fun g'' kv ws=>∃ k:Nat,k<=nk/\nk-k<=g''/\kv = .int .i64 k/\Hid (PtSt w ws hd Si ⟨ps,cs,po,co,pe,ce,some ⟨bn,on,none⟩,cn,K⟩ d gd g7 g8 ge gn A (N ++ List.replicate (n4-i) 0))/\Hid (A3a ws gr ((ks.map (Nd.toA A N)).take k ++ List.replicate (nk-k) 0))/\Hid (ws.cell? ⟨bb,0,none⟩=some (.int .i64 v)))
      case atStart=>exact ⟨0,G9c _,by omega,rfl,PK0,W20,X0⟩
      case round=>
       obtain ⟨k,hkl,hgg,rfl,PK,WK,XK⟩:=hrel;clear PK0 W20 X0;have HTL:=hZ (show ((ks.map (Nd.toA A N)).take k).length=k from by rw [A3c,C6c,HNK.out];omega)
       by_cases hltk:k < nk
       . have tkk:decide ((k:Int) < (nk:Int))=true:=dT;obtain ⟨y,hy⟩:=A5a (E:=ks) (j:=k) (by rw [HNK.out];exact hltk);obtain ⟨bk',okk',ekp,hbk,hck⟩:=(PK.out.rd.ks i (v,ks) _ HQQ.out HKK.out).cells (by simp only;rw [HNK.out];omega);simp only at ekp hck
         cases ekp
         have gy:=hck k y hy;have href:=HLOW.out y (u1b hy);have b7:=PK.out.b7;have b8:=PK.out.b8;rw [HQ.out.1] at b7;rw [HQ.out.2.1] at b8;have P1:=hZ (put1 (A:=A) (N:=N ++ List.replicate (n4-i) 0) (r:=y) AL.out (by rw [w2b,NL.out,t0b];omega) el nl b7 b8 PK.out.ra PK.out.rn (by have:=href.2;rw [HQ.out.1] at this;exact this) (by have:=href.1;omega));rw [j4b (by have:=href.1;rw [NL.out];exact this)] at P1;have HHY:=hZ hy;clear hck hbk hy href b7 b8
         go_wp2_with fail
         refine Calls.mono P1.out ?_;rintro e w4 ⟨rfl,hE4⟩;have P4:=hZ (PK.out.ext hE4);have W4:=hZ (WK.out.ext hE4);have X4:=hZ (hE4.q XK.out);have qk:=W4.out.get (q3a HTL.out hltk);have fk:=W4.out.froz k;have htb:=HTA.out y;have W5:=hZ (W4.out.set (s5a (x:=Nd.toA A N y) HTL.out hltk) htb.1 htb.2);have B5:But [gr] w4 (w4.setCell ⟨gr,k,none⟩ (.int .i64 (Nd.toA A N y))):=(But.refl _ _).setCell (.inl (by simp)) _;have P5:=hZ (P4.out.far B5 (fun b hb=>by
          rw [w8b.1 hb];obtain ⟨g1,g2,g3,g4,g5,g6,g7⟩:=GK.out;exact ⟨g1,g3,g4,g5,g6,g7⟩))
         have X5:Hid ((w4.setCell ⟨gr,k,none⟩ (.int .i64 (Nd.toA A N y))).cell? ⟨bb,0,none⟩=some (.int .i64 v)):=hZ ((B5.cell (cell_lt X4.out) (by simpa using BK.out) 0).trans X4.out);clear hE4 gy P1 B5 htb
         go_wp2_with fail
         go_roundg (nk-(k+1))
         case measure=>omega
         case rel=>exact ⟨k+1,by omega,H0c _,by go_num,P5,(by
          have e:(ks.map (Nd.toA A N)).take (k+1)=(ks.map (Nd.toA A N)).take k ++ [Nd.toA A N y]:=by
           rw [y6b,y7b,HHY.out];rfl
          rw [e];exact W5),X5⟩
       have:k=nk:=by omega
       subst this;have tkk:decide ((k:Int) < (k:Int))=false:=dF;have WF:Hid (A3a wr gr (ks.map (Nd.toA A N))):=by
        have h1:=WK.out;rw [s6b (by rw [C6c,HNK.out];exact H0c _),G1c,v4b,C7c] at h1;exact hZ h1
       have b8:=PK.out.b8;rw [HQ.out.2.1] at b8;have x0:=XK.out;clear WK HTL;go_upto_region 27 with fail
       refine D4a (S:=fun W=>W.cell? ⟨g8,0,none⟩=some (.slice (some ⟨gn,0,none⟩) n4 n4)/\W.cell? ⟨bb,0,none⟩=some (.int .i64 v)) (R:=Eq) (by kernel_rfl) (fun _=>rfl) ?_ ?_
       . exact ⟨b8,x0⟩
       refine' tkr 0 ?_ (hy:=by intro w hSw;(obtain ⟨s1,s2⟩:=hSw);go_simp;try with_reducible rfl);refine' tkr 1 ?_ (hy:=by intro w hSw;(obtain ⟨s1,s2⟩:=hSw);go_simp;try with_reducible rfl);refine' tkr 2 ?_ (hy:=by intro w hSw;(obtain ⟨s1,s2⟩:=hSw);go_simp;try with_reducible rfl);refine' tkr 3 ?_ (hy:=by intro w hSw;(obtain ⟨s1,s2⟩:=hSw);go_simp;try with_reducible rfl);refine' tkr 4 ?_ (hy:=by intro w hSw;(obtain ⟨s1,s2⟩:=hSw);go_simp;try with_reducible rfl);refine' tkr 5 ?_ (hy:=by intro w hSw;(obtain ⟨s1,s2⟩:=hSw);go_simp;try with_reducible rfl);refine H5a 6 (f:=44) (args:=#[.pointer (some ⟨hd.hb,0,none⟩),.int .i64 v,.slice (some ⟨gr,0,none⟩) k k]) rfl (by kernel_rfl) (by rfl) ?run6 ?call6
       case run6=>go_simp
       have PKd:=hZ (PK.out.ext (Ext.drew (Ext.refl wr)));have WFd:=hZ (WF.out.ext (Ext.drew (Ext.refl wr)));refine (MA.out _ gr PKd.out.now.toHAt WFd.out GK.out.2.1).mono ?_;rintro e6 w6 ⟨rfl,N6⟩;have P6:=hZ (PKd.out.heap N6);have b86:=P6.out.b8;rw [HQ.out.2.1] at b86;have x06:=(N6.but.cell (cell_lt (show wr.drew.cell? ⟨bb,0,none⟩=_ from x0)) GB.out.2.1 0).trans x0;refine ⟨.tuple #[.int .i64 a,.int .i64 er1],rfl,⟨b86,x06⟩, ?_⟩;clear N6 x0 b8 PK PKd WF WFd MA;refine layy ?_;refine' tkr 7 ?_;refine' tkr 8 ?_;refine' tkr 9 ?_;refine' tkr 10 ?_;have qi:=P6.out.rn.get (q3a NL.out hlti);have fi:=P6.out.rn.froz i;have P7:=hZ (P6.out.setN (s5a (x:=a) NL.out hlti) HSM.out.1 HSM.out.2.1);have b87:=P7.out.b8;rw [HQ.out.2.1] at b87;have B7:But [gn] w6 (w6.setCell ⟨gn,i,none⟩ (.int .i64 a)):=(But.refl _ _).setCell (.inl (by simp)) _;have x07:=(B7.cell (cell_lt x06) (by simpa using GB.out.2.2.2.2.2.2) 0).trans x06;refine V4a 11 (w':=w6.setCell ⟨gn,i,none⟩ (.int .i64 a)) rfl (by kernel_rfl) (by rfl) ?run11 ⟨b87,x07⟩ ?next11
       case run11=>go_simp
       clear qi fi B7 x06 b86 b87 x07 P6;refine layy ?_;refine' tkr 12 ?_;refine A0a (by kernel_rfl) ?_ _;intro w8 e8 _;rw [e8] at P7;clear e8;have hqq:d.nodes.drop i=(v,ks) :: d.nodes.drop (i+1):=Nd.drop_cons HQQ.out;have HDR:=hZ hqq;clear hqq
       by_cases e0:er1=0
       . subst e0
         go_wp2_with fail
         go_roundg (n4-(i+1))
         case measure=>omega
         case rel=>exact ⟨i+1,S1,N ++ [a],by omega,H0c _,by go_num,P7,(show Aside _ from by rw [w2b,NL.out];rfl),(show Nd.putN A Sj d.nodes []=Nd.putN A S1 (d.nodes.drop (i+1)) (N ++ [a]) from by rw [EN.out,HDR.out];simp [Nd.putN,H1.out]),(show Aside _ from K1.out)⟩
       have t0:(er1 != 0)=true:=by simpa using e0
       have HE0:=hZ e0;clear e0
       go_wp2_with fail
       go_returns;have hput:Nd.put d S=some (0,er1,S1):=by
        rw [HPU.out er1 N S1 (by rw [EN.out,HDR.out];simp [Nd.putN,H1.out,HE0.out]),H5c HE0.out]
       have:=HP.out;rw [hput] at this;simp only [z7b,F1c] at this;obtain ⟨rfl,rfl,rfl⟩:=this;exact ⟨rfl,P7.out.now⟩
    have:i=n4:=by omega
    subst this;have tki:decide ((i:Int) < (i:Int))=false:=dF;have EN2:Nd.putN A Sj d.nodes []=some (0,N,Si):=by
     rw [EN.out,s5b (by rw [HQ.out.2.1];exact H0c _)];rfl
    rw [G1c,v4b,C7c] at PI;have b7:=PI.out.b7;have b8:=PI.out.b8;have b4:=PI.out.d4;rw [HQ.out.1] at b7;rw [HQ.out.2.1] at b8;rw [HQ.out.2.2] at b4;have HRT:=HROOT.out;rw [HQ.out.2.2,HQ.out.2.1] at HRT;have P1:=hZ (put1 (A:=A) (N:=N) (r:=rt) AL.out NL.out el nl b7 b8 PI.out.ra PI.out.rn (by have:=HRT.2;rw [HQ.out.1] at this;exact this) HRT.1);have hput:Nd.put d S=some (Nd.toA A N rt,0,Si):=by
     rw [HPU.out 0 N Si EN2,H4c (by simp),HQ.out.2.2]
    have HPT:=hZ hput;clear EN EN2 HRT hput b7 b8
    go_wp2_with fail
    refine Calls.mono P1.out ?_;rintro e w4 ⟨rfl,hE4⟩
    go_wp2_with fail
    go_returns;have:=HP.out;rw [HPT.out] at this;simp only [z7b,F1c] at this;obtain ⟨rfl,rfl,rfl⟩:=this;exact ⟨rfl,(PI.out.ext hE4).now⟩
theorem a3b {L:DgL} {d:Nd.Dia} (h:RW w r S) (hr:DgRd w L d.sizes d.order d.ends d.nodes) (hN:q7a d) (hc:E8a d ≠ 0) :
    Calls prog 48 #[.pointer (some ⟨r.rb,0,none⟩),dgV L d.sizes.length d.order.length d.ends.length d.nodes.length d.root] w (C9a r w (.tuple #[.int .i64 0,.int .i64 (E8a d)]) S):=by
  have H:=hZ (RNow.refl h);have CK:=hZ (fun W (hE:Ext w W)=>X4b (hr.ext hE) hN);have t0:(E8a d != 0)=true:=by simpa using hc
  clear h hr hN hc;generalize E8a d=ce at *;generalize d.sizes.length=n1 at *;generalize d.order.length=n2 at *;generalize d.ends.length=n3 at *;generalize d.nodes.length=n4 at *;generalize d.root=rt at *;unfold dgV DgL.cells at *;go_enter func48,ntmps48
  go_wp2_with (go_at_call 35;refine m4_ (CK.out _ (exx)) fun w2 hb2 hc2 hf2 hs2=>?_;obtain ⟨hz2_0,hc2_0,hf2_0⟩:=c3_ hb2 w.heap.size)
  go_returns;exact ⟨rfl,H.out.ext (exx)⟩
theorem c8b {L:DgL} {d:Nd.Dia} (h:RW w r S) (hr:DgRd w L d.sizes d.order d.ends d.nodes) (hN:q7a d) (hc:E8a d=0) (hne:¬ (d.sizes=S.sizes/\d.order=S.order)) :
    Calls prog 48 #[.pointer (some ⟨r.rb,0,none⟩),dgV L d.sizes.length d.order.length d.ends.length d.nodes.length d.root] w (C9a r w (.tuple #[.int .i64 0,.int .i64 2]) S):=by
  have H:=hZ (RNow.refl h);have CK:=hZ (fun W (hE:Ext w W)=>X4b (hr.ext hE) hN);rw [hc] at CK;obtain ⟨b1,hb1⟩:∃ b1,decide (d.sizes=S.sizes)=b1:=⟨_,rfl⟩
  obtain ⟨b2,hb2⟩:∃ b2,decide (d.order=S.order)=b2:=⟨_,rfl⟩
  have hbb:¬ (b1=true/\b2=true):=by
   rintro ⟨rfl,rfl⟩;exact hne ⟨A2c hb1,A2c hb2⟩
  have ZZ:=hZ (fun W (hE:Ext w W)=>I6a hb1 (hr.ext hE).s (h.ext hE).sizes);have OO:=hZ (fun W (hE:Ext w W)=>I6a hb2 (hr.ext hE).o (h.ext hE).order);have c0:=h.c0;have c1:=h.c1;clear h hr hN hc hne hb1 hb2;generalize d.sizes.length=n1 at *;generalize d.order.length=n2 at *;generalize d.ends.length=n3 at *;generalize d.nodes.length=n4 at *;generalize S.sizes.length=m1 at *;generalize S.order.length=m2 at *;generalize d.root=rt at *;unfold dgV DgL.cells at *;have mixed:prog.follows .mixedOrders=true:=by kernel_rfl
  go_enter func48,ntmps48;go_upto_region 4 with (go_at_call 35;refine m4_ (CK.out _ (exx)) fun w2 hb2 hc2 hf2 hs2=>?_;obtain ⟨hz2_0,hc2_0,hf2_0⟩:=c3_ hb2 w.heap.size)
  refine B0a (F:=fun W=>Hid (Ext w W)/\W.cell? ⟨w.heap.size,0,none⟩=some (.slice L.ps n1 L.cs)/\W.cell? ⟨w.heap.size,1,none⟩=some (.slice L.po n2 L.co)) ⟨hZ (exx),by go_simp,by go_simp⟩ ?_;intro w3 ⟨E3,g0,g1⟩;clear hb2 hc2 hf2 hs2 hz2_0 hc2_0 hf2_0;have q0:=E3.out.q c0;have q1:=E3.out.q c1;generalize w.heap.size=gd at g0 g1 ⊢;have zg:=cell_lt g0;have zq:=cell_lt q0
  cases b1 with
  | false=>
   have pr86a:=Ext.r g0;have pr86b:=Ext.r q0
   refine rg0 w3 ?_
   refine' tkd 0 ?_;refine' tkd 2 ?_;refine' tkd 4 ?_;refine' tkR 6 (v:=.bool false) rfl (Or.inr ⟨by rfl,24,_, ?hx6_2145, ?hy6_2145⟩) ?rest6_2145
   case hx6_2145=>(intro w hSw;go_simp;try with_reducible rfl)
   case hy6_2145=>exact fun w hE=>(ZZ.out _ (E3.out.trans hE)).mono (fun _ _ h=>⟨h.1,h.2,Ext.trans hE h.2⟩)
   refine layy ?_;refine' tkd 7 ?_;refine' tkN 9 ?_;refine' tkN 10 ?_;refine' tkN 11 ?_;refine' tkN 12 ?_;refine' tkN 13 ?_;refine' tkN 14 ?_;refine' tkN 15 ?_;refine' tkN 16 ?_;refine' tkL 17 ?_;refine A0a (by kernel_rfl) ?_ _;intro x4 _ Ex4;clear pr86a pr86b
   go_wp2_with fail
   go_returns;exact ⟨rfl,H.out.ext (E3.out.trans Ex4)⟩
  | true=>
   have hb2:b2=false:=by
    cases b2 with
    | false=>rfl
    | true=>exact absurd ⟨rfl,rfl⟩ hbb
   subst hb2;have pr87a:=Ext.r g0
   have pr87b:=Ext.r g1;have pr87c:=Ext.r q0;have pr87d:=Ext.r q1
   refine rg0 w3 ?_
   refine' tkd 0 ?_;refine' tkd 2 ?_;refine' tkd 4 ?_;refine' tkR 6 (v:=.bool true) rfl (Or.inr ⟨by rfl,24,_, ?hx6_2163, ?hy6_2163⟩) ?rest6_2163
   case hx6_2163=>(intro w hSw;go_simp;try with_reducible rfl)
   case hy6_2163=>exact fun w hE=>(ZZ.out _ (E3.out.trans hE)).mono (fun _ _ h=>⟨h.1,h.2,Ext.trans hE h.2⟩)
   refine layy ?_;refine' tkd 7 ?_;refine' tkd 9 ?_;refine' tkd 11 ?_;refine' tkd 13 ?_;refine' tkR 15 (v:=.bool false) rfl (Or.inr ⟨by rfl,24,_, ?hx15_2172, ?hy15_2172⟩) ?rest15_2172
   case hx15_2172=>(intro w hSw;go_simp;try with_reducible rfl)
   case hy15_2172=>exact fun w hE=>(OO.out _ (E3.out.trans hE)).mono (fun _ _ h=>⟨h.1,h.2,Ext.trans hE h.2⟩)
   refine layy ?_;refine' tkd 16 ?_;refine A0a (by kernel_rfl) ?_ _;intro x4 _ Ex4;clear pr87a pr87b pr87c pr87d
   go_wp2_with fail
   go_returns;exact ⟨rfl,H.out.ext (E3.out.trans Ex4)⟩
structure RkSt (w wr:World) (r:Rd) (S:Hp.Hs) (L:DgL) (d:Nd.Dia) (gd:Nat) (pA:Option Addr) (cA:Nat) (A:List Int) (pN:Option Addr) (cN:Nat) (N:List Int) (pK:Option Addr) (cK:Nat) (M:List Int):Prop where
 st:RpSt w wr r S L d gd pA cA A pN cN N
 rk:Row wr 0 pK cK M
 lk:∀ b ∈ blk pK,w.heap.size<=b/\b < wr.heap.size/\b ≠ gd/\b ∉ blk pA/\b ∉ blk pN
namespace RkSt
variable {w wr w':World} {r:Rd} {S S':Hp.Hs} {L:DgL} {d:Nd.Dia} {gd:Nat} {pA pN pK:Option Addr} {cA cN cK:Nat} {A N M:List Int}
theorem ext (h:RkSt w wr r S L d gd pA cA A pN cN N pK cK M) (k:Ext wr w'):RkSt w w' r S L d gd pA cA A pN cN N pK cK M:=
 ⟨h.st.ext k,h.rk.ext k,fun b hb=>⟨(h.lk b hb).1,x4b (h.lk b hb).2.1 k.le,(h.lk b hb).2.2⟩⟩
theorem grow (h:RkSt w wr r S L d gd pA cA A pN cN N pK cK M) {row:Option Nat} {M':List Int} (hR:Row w' 0 (some ⟨g,0,none⟩) cap M') (hG:wr.grownBy w' row) (hrow:∀ q,row=some q->pK=some ⟨q,0,none⟩) (hg:pK=some ⟨g,0,none⟩ \/ g=wr.heap.size) (hlt:g < w'.heap.size):RkSt w w' r S L d gd pA cA A pN cN N (some ⟨g,0,none⟩) cap M':=by
 have k:But (blk pK) wr w':=⟨hG.os,hG.tape,hG.output,hG.size,fun i hi hn=>hG.block i hi fun e=>hn (by rw [hrow i e.symm];simp [blk])⟩
 refine ⟨h.st.far k fun b hb=>⟨(h.lk b hb).1,(h.lk b hb).2.2⟩,hR,fun b hb=>?_⟩
 have:b=g:=by simpa [blk] using hb
 subst this
 rcases hg with hg | hg
 . have:=h.lk b (by rw [hg];simp [blk]);exact ⟨this.1,hlt,this.2.2⟩
 have h1:=cell_lt h.st.d2
 have h2:=h.st.now.but.size
 exact ⟨by omega,hlt,by omega,fun hm=>by have:=(h.st.lo.2.1 b hm).2.1;omega,fun hm=>by have:=(h.st.lo.2.2 b hm).2.1;omega⟩
end RkSt
open Go.RowKit Go.Maps
theorem S8b {L L2:DgL} {d:Nd.Dia} {xr er:Int} (h:RW w r S) (hr:DgRd w L d.sizes d.order d.ends d.nodes) (hN:W4a d L2) (hc:E8a d=0) (hz:d.sizes=S.sizes) (ho:d.order=S.order) (hg:Hp.Good S B) (hsm:S.words.length<=1000000) (hdl:∀ W,But r.own w W->DgRd W L d.sizes d.order d.ends d.nodes) (hp:Nd.put d S=some (xr,er,S')) :
    Calls prog 48 #[.pointer (some ⟨r.rb,0,none⟩),dgV L d.sizes.length d.order.length d.ends.length d.nodes.length d.root] w (C9a r w (.tuple #[.int .i64 xr,.int .i64 er]) S'):=by
  obtain ⟨hle,his⟩:=y1a hc;obtain ⟨hfr,hlb⟩:=Z6a hle;obtain ⟨hlow,hroot⟩:=P5a hlb;have hin:=g7a (Hp.H8a hfr).1 hlb hN;have H:=hZ (RNow.refl h);have HR:=hZ hr;have CK:=hZ (fun W (hE:Ext w W)=>X4b (hr.ext hE) hN.toq7a);rw [hc] at CK;have ZZ:=hZ (fun W (hE:Ext w W)=>I6a (b:=true) (E5c hz) (hr.ext hE).s (h.ext hE).sizes);have OO:=hZ (fun W (hE:Ext w W)=>I6a (b:=true) (E5c ho) (hr.ext hE).o (h.ext hE).order);have c0:=h.c0;have c1:=h.c1;have OL:=hZ (show (∀ b ∈ r.own,b < w.heap.size)/\(0 < S.sizes.length -> ∀ b o,r.sp=some ⟨b,o,none⟩->b < w.heap.size)/\(0 < S.order.length -> ∀ b o,r.op=some ⟨b,o,none⟩->b < w.heap.size) from ⟨fun b hb=>by
      simp only [Rd.own,E6c,A9c,or_false] at hb
      rcases hb with rfl | rfl
      . exact cell_lt h.c0
      . exact h.words.lt,fun h0 b o e=>by
      obtain ⟨b',o',e',hb',_⟩:=h.sizes.cells h0;rw [e'] at e
      cases e
      exact hb',fun h0 b o e=>by
      obtain ⟨b',o',e',hb',_⟩:=h.order.cells h0;rw [e'] at e
      cases e
      exact hb'⟩)
  have HIN:=hZ hin;have HROOT:=hZ hroot;have HDL:=hZ hdl;have HP:=hZ hp;have HG:=hZ (show Hp.Good S B/\S.words.length<=1000000 from ⟨hg,hsm⟩);have l3:=hr.e.le;have l4:=hr.n.le;rw [C6c] at l3;rw [A7a hr.kl] at l4;have el:=hin.el;have nl:=hin.nl;obtain ⟨n1,h1⟩:∃ n,d.sizes.length=n:=⟨_,rfl⟩
  obtain ⟨n2,h2⟩:∃ n,d.order.length=n:=⟨_,rfl⟩
  obtain ⟨n3,h3⟩:∃ n,d.ends.length=n:=⟨_,rfl⟩
  obtain ⟨n4,h4⟩:∃ n,d.nodes.length=n:=⟨_,rfl⟩
  obtain ⟨rt,h5⟩:∃ n,d.root=n:=⟨_,rfl⟩
  have HQ:=hZ (show d.ends.length=n3/\d.nodes.length=n4/\d.root=rt from ⟨h3,h4,h5⟩);rw [h1] at ZZ;rw [h2] at OO;rw [h1,h2,h3,h4,h5] at CK ⊢;rw [h3] at l3 el;rw [h4] at l4 nl;clear h hr hN hc hz ho hg hdl hp hle his hfr hlb hlow hroot hin hsm h1 h2 h3 h4 h5;generalize hm1:S.sizes.length=m1 at ZZ c0;generalize hm2:S.order.length=m2 at OO c1;clear hm1 hm2;obtain ⟨ps,cs,po,co,pe,ce,pn,cn,K⟩:=L;unfold dgV DgL.cells at *;simp only at *;have mixed:prog.follows .mixedOrders=true:=by kernel_rfl
  go_enter func48,ntmps48;go_upto_region 4 with (go_at_call 35;refine m4_ (CK.out _ (exx)) fun w2 hb2 hc2 hf2 hs2=>?_;obtain ⟨hz2_0,hc2_0,hf2_0⟩:=c3_ hb2 w.heap.size)
  refine B0a (F:=fun W=>Hid (Ext w W)/\W.cell? ⟨w.heap.size,0,none⟩=some (.slice ps n1 cs)/\W.cell? ⟨w.heap.size,1,none⟩=some (.slice po n2 co)/\W.cell? ⟨w.heap.size,2,none⟩=some (.slice pe n3 ce)/\W.cell? ⟨w.heap.size,3,none⟩=some (.slice pn n4 cn)/\W.cell? ⟨w.heap.size,4,none⟩=some (.int .i64 rt)) ⟨hZ (exx),by go_simp,by go_simp,by go_simp,by go_simp,by go_simp⟩ ?_;intro w3 ⟨E3,g0,g1,g2,g3,g4⟩;clear hb2 hc2 hf2 hs2 hz2_0 hc2_0 hf2_0 CK;have q0:=E3.out.q c0;have q1:=E3.out.q c1;generalize hgd:w.heap.size=gd at g0 g1 g2 g3 g4 ⊢;have HGD:=hZ (show w.heap.size<=gd from by omega);clear hgd c0 c1;have zg:=cell_lt g0;have zq:=cell_lt q0;have pr88a:=Ext.r g0
  have pr88b:=Ext.r g1;have pr88c:=Ext.r q0;have pr88d:=Ext.r q1
  refine rg0 w3 ?_
  refine' tkd 0 ?_;refine' tkd 2 ?_;refine' tkd 4 ?_;refine' tkR 6 (v:=.bool true) rfl (Or.inr ⟨by rfl,24,_, ?hx6_2181, ?hy6_2181⟩) ?rest6_2181
  case hx6_2181=>(intro w hSw;go_simp;try with_reducible rfl)
  case hy6_2181=>exact fun w hE=>(ZZ.out _ (E3.out.trans hE)).mono (fun _ _ h=>⟨h.1,h.2,Ext.trans hE h.2⟩)
  refine layy ?_;refine' tkd 7 ?_;refine' tkd 9 ?_;refine' tkd 11 ?_;refine' tkd 13 ?_;refine' tkR 15 (v:=.bool true) rfl (Or.inr ⟨by rfl,24,_, ?hx15_2190, ?hy15_2190⟩) ?rest15_2190
  case hx15_2190=>(intro w hSw;go_simp;try with_reducible rfl)
  case hy15_2190=>exact fun w hE=>(OO.out _ (E3.out.trans hE)).mono (fun _ _ h=>⟨h.1,h.2,Ext.trans hE h.2⟩)
  refine layy ?_;refine' tkd 16 ?_;refine A0a (by kernel_rfl) ?_ _;intro x5 _ Ex5;clear pr88a pr88b pr88c pr88d
  have P0:=hZ (show RpSt w x5 r S ⟨ps,cs,po,co,pe,ce,pn,cn,K⟩ d gd none 0 [] none 0 [] from
   { now:=H.out.ext (E3.out.trans Ex5)
     rd:=HR.out.ext (E3.out.trans Ex5)
     d2:=by rw [HQ.out.1];exact Ex5.q g2
     d3:=by rw [HQ.out.2.1];exact Ex5.q g3
     d4:=by rw [HQ.out.2.2];exact Ex5.q g4
     ra:=Row.nil _ _
     rn:=Row.nil _ _
     lo:=⟨HGD.out,by simp [blk],by simp [blk]⟩
     dl:=HDL.out
     hl:=OL.out.1
     sl:=OL.out.2 })
  have b2:=P0.out.d2;rw [HQ.out.1] at b2;simp only at b2;clear Ex5 g0 g1 g2 g3 g4 q0 q1 zg zq ZZ OO E3
  go_wp2_with fail
  clear b2
  go_loopg [7,9] n3 (fun g' av iv wr=>∃ (j:Nat) (Sj:Hp.Hs) (A:List Int) (pA:Option Addr) (cA:Nat),j<=n3/\n3-j<=g'/\av = .slice pA j cA/\iv = .int .i64 j/\Hid (RpSt w wr r Sj ⟨ps,cs,po,co,pe,ce,pn,cn,K⟩ d gd pA cA A none 0 [])/\Aside (A.length=j)/\Aside (Nd.putE S d.ends []=Nd.putE Sj (d.ends.drop j) A)/\Aside (Hp.Good Sj B/\Sj.sizes=S.sizes/\Sj.order=S.order/\Sj.words.length<=1000000))
  case atStart=>exact ⟨0,S,[],none,0,G9c _,by omega,rfl,rfl,P0,rfl,rfl,(show Aside _ from ⟨HG.out.1,rfl,rfl,HG.out.2⟩)⟩
  case round=>
   obtain ⟨j,Sj,A,pA,cA,hj,hg,rfl,rfl,PJ,AL,EQ,GJ⟩:=hrel;clear P0
   by_cases hlt:j < n3
   . have tk:decide ((j:Int) < (n3:Int))=true:=dT;obtain ⟨v,hv⟩:=A5a (E:=d.ends) (j:=j) (by rw [HQ.out.1];exact hlt);obtain ⟨be,oe,hpe,hbe,hce⟩:=PJ.out.rd.e.L0a (by rw [HQ.out.1];omega);simp only at hpe;subst hpe;obtain ⟨q1,q2⟩:=hce j v hv;have hov:=HIN.out.ends v (u1b hv);obtain ⟨v1,n⟩:=v;obtain ⟨⟨f1,f2⟩,f3,f4⟩:=hov;simp only at q1 q2 f1 f2 f3 f4;obtain ⟨f,rfl⟩:∃ f:Nat,v1=(f:Int):=⟨v1.toNat,by omega⟩
     obtain ⟨L1,ch1,hw⟩:=id GJ.out.1;obtain ⟨a,er1,S1,h1,k1,k2⟩:=Hp.f5a GJ.out.1 (fault:=(f:Int)) (n:=n) (by omega);obtain ⟨sm1,sm2,-,-⟩:=i2a GJ.out.2.2.2 h1;have sa1:(-9223372036854775808:Int)<=a:=by omega
     have sa2:a<=9223372036854775807:=by omega
     have e1:=k2.sizes;have e2:=k2.order;have EA:=hZ (fun W (hA:RW W r Sj)=>(show Calls prog 112 #[.pointer (some ⟨r.rb,0,none⟩),.agg #[.int .u8 f,.int .i64 n]] W (C9a r W (.tuple #[.int .i64 a,.int .i64 er1]) S1) from rEnd hA hw (f:=f) (n:=n) (by omega) f3 f4 h1));have K1:=hZ (show Hp.Good S1 B/\S1.sizes=S.sizes/\S1.order=S.order/\S1.words.length<=1000000 from ⟨k1,k2.sizes.trans GJ.out.2.1,k2.order.trans GJ.out.2.2.1,by rw [k2.len];exact GJ.out.2.2.2⟩);have HV:=hZ hv;have H1:=hZ h1;have b2:=PJ.out.d2;rw [HQ.out.1] at b2;simp only at b2;clear hv hce f3 f4 h1 k1 k2 hw
     by_cases e0:er1=0
     . subst e0
       go_wp2_with (first
        | (go_at_call 112;refine (EA.out _ PJ.out.now.toRW).mono ?_;rintro e3 w3 ⟨rfl,N3⟩;have P3:=hZ (PJ.out.heap ⟨N3.toRW,N3.but⟩ e1 e2);clear N3)
        | (at_builtin;refine A8a rfl _ _ rfl (n:=j) AL.out rfl rfl (P3.out.ext (Ext.alloc (Ext.refl _) _)).ra (by go_simp) sa1 sa2 (by omega) ?_;intro g7 c7 w7 row7 hR7 hG7 hr7 hg7;have P7:=hZ ((P3.out.ext (Ext.alloc (Ext.refl _) _)).growA hR7 hG7 hr7 hg7 (hR7.lt rfl));clear hR7 hG7 hr7 hg7))
       go_roundg (n3-(j+1))
       case measure=>omega
       case rel=>exact ⟨j+1,S1,A ++ [a],_,_,by omega,H0c _,rfl,by go_num,P7,(show Aside _ from by rw [w2b,AL.out];rfl),(show Nd.putE S d.ends []=Nd.putE S1 (d.ends.drop (j+1)) (A ++ [a]) from by rw [EQ.out,Nd.drop_cons HV.out];simp [Nd.putE,H1.out]),(show Aside _ from K1.out)⟩
     have t0:(er1 != 0)=true:=by simpa using e0
     have HE0:=hZ e0;clear e0
     go_wp2_with (go_at_call 112;refine (EA.out _ PJ.out.now.toRW).mono ?_;rintro e3 w3 ⟨rfl,N3⟩;have P3:=hZ (PJ.out.heap ⟨N3.toRW,N3.but⟩ e1 e2);clear N3)
     go_returns;have hput:Nd.put d S=some (0,er1,S1):=by
      unfold Nd.put;rw [EQ.out,Nd.drop_cons HV.out];simp [Nd.putE,H1.out,HE0.out]
     have:=HP.out;rw [hput] at this;simp only [z7b,F1c] at this;obtain ⟨rfl,rfl,rfl⟩:=this;exact ⟨rfl,P3.out.now⟩
   have:j=n3:=by omega
   subst this;have tk:decide ((j:Int) < (j:Int))=false:=dF;have EQ2:Nd.putE S d.ends []=some (0,A,Sj):=by
    rw [EQ.out,s5b (by rw [HQ.out.1];exact H0c _)];rfl
   have HPU:=hZ (show ∀ e N Sn,Nd.putN A Sj d.nodes []=some (e,N,Sn)->Nd.put d S=(if e ≠ 0 then some (0,e,Sn) else some (Nd.toA A N d.root,0,Sn)) from fun e N Sn h=>by
    unfold Nd.put;rw [EQ2];simp [h])
   have b2:=PJ.out.d2;have b3:=PJ.out.d3;rw [HQ.out.1] at b2;rw [HQ.out.2.1] at b3;simp only at b2 b3;clear EQ EQ2
   go_wp2_with fail
   clear b2 b3
   go_loopg [8,12] n4 (fun g' nv iv wr=>∃ (i:Nat) (Si:Hp.Hs) (N:List Int) (pN:Option Addr) (cN:Nat),i<=n4/\n4-i<=g'/\nv = .slice pN i cN/\iv = .int .i64 i/\Hid (RpSt w wr r Si ⟨ps,cs,po,co,pe,ce,pn,cn,K⟩ d gd pA cA A pN cN N)/\Aside (N.length=i)/\Aside (Nd.putN A Sj d.nodes []=Nd.putN A Si (d.nodes.drop i) N)/\Aside (Hp.Good Si B/\Si.sizes=S.sizes/\Si.order=S.order/\Si.words.length<=1000000))
   case atStart=>exact ⟨0,Sj,[],none,0,G9c _,by omega,rfl,rfl,PJ,rfl,rfl,GJ⟩
   case round=>
    obtain ⟨i,Si,N,pN,cN,hi,hg2,rfl,rfl,PI,NL,EN,GI⟩:=hrel;clear PJ
    by_cases hlti:i < n4
    . have tki:decide ((i:Int) < (n4:Int))=true:=dT;obtain ⟨q,hq⟩:=A5a (E:=d.nodes) (j:=i) (by rw [HQ.out.2.1];exact hlti);obtain ⟨⟨kp,kc⟩,hkk⟩:=A5a (E:=K) (j:=i) (by have:=PI.out.rd.kl;simp only at this;rw [this,HQ.out.2.1];exact hlti);have hqm:=u1b hq;have hq0:0 < q.2.length:=v2b.2 (HIN.out.k0 q hqm);have hq12:=HIN.out.k12 q hqm;have hqv:=HIN.out.var q hqm
      have hlow:∀ k ∈ q.2,d.Ref k i:=fun k hk=>HIN.out.low i (by rw [HQ.out.2.1];exact hlti) k (by
       have:d.nodeAt i=q:=by unfold Nd.Dia.nodeAt;rw [hq];rfl
       rw [this];exact hk)
      obtain ⟨v,ks⟩:=q;simp only at hq0 hq12 hqv hlow;obtain ⟨nk,hnk⟩:∃ n,ks.length=n:=⟨_,rfl⟩
      have HNK:=hZ hnk;rw [hnk] at hq0 hq12;have HLOW:=hZ hlow;have HQQ:=hZ hq;have HKK:=hZ hkk;have hbdA:∀ x ∈ A,-9223372036854775808<=x/\x<=9223372036854775807:=PI.out.ra.2
      have hbdN:∀ x ∈ N,-9223372036854775808<=x/\x<=9223372036854775807:=PI.out.rn.2
      have HTA:=hZ (i5b hbdA hbdN);obtain ⟨L1,ch1,hw⟩:=id GI.out.1;obtain ⟨a,er1,S1,h1,k1,k2⟩:=Hp.Z7a GI.out.1 v (ks.map (Nd.toA A N));have sm:=C1b GI.out.2.2.2 (fun x hx=>by obtain ⟨k,_,rfl⟩:=F7c.1 hx;exact HTA.out k) h1;have e1:=k2.sizes;have e2:=k2.order;have H1:=hZ h1;have K1:=hZ (show Hp.Good S1 B/\S1.sizes=S.sizes/\S1.order=S.order/\S1.words.length<=1000000 from ⟨k1,k2.sizes.trans GI.out.2.1,k2.order.trans GI.out.2.2.1,by rw [k2.len];exact GI.out.2.2.2⟩);obtain ⟨sm1,sm2,sm3,sm4⟩:=sm
      have MA:=hZ (fun W p c (hA:RW W r Si) (hR:SliceAt W p c (ks.map (Nd.toA A N))) (hgo:∀ b o,p=some ⟨b,o,none⟩->b ∉ r.own)=>(by
       have:=rMake hA hw hR hgo hqv.1 hqv.2 H1.out;rw [C6c,HNK.out] at this;exact this:Calls prog 114 #[.pointer (some ⟨r.rb,0,none⟩),.int .i64 v,.slice p nk c] W (C9a r W (.tuple #[.int .i64 a,.int .i64 er1]) S1)))
      have b3:=PI.out.d3;rw [HQ.out.2.1] at b3;simp only at b3;have PK0:Hid (RkSt w wr r Si ⟨ps,cs,po,co,pe,ce,pn,cn,K⟩ d gd pA cA A pN cN N none 0 ((ks.map (Nd.toA A N)).take 0)):=hZ ⟨PI.out,Row.nil _ _,by simp [blk]⟩;clear hq hkk hqm hlow hnk hbdA hbdN h1 k1 k2 hw PI
      go_wp2_with fail
      clear b3
      go_loopg [13,14] nk (fun g'' mv kv ws=>∃ (k:Nat) (pK:Option Addr) (cK:Nat),k<=nk/\nk-k<=g''/\mv = .slice pK k cK/\kv = .int .i64 k/\Hid (RkSt w ws r Si ⟨ps,cs,po,co,pe,ce,pn,cn,K⟩ d gd pA cA A pN cN N pK cK ((ks.map (Nd.toA A N)).take k)))
      case atStart=>exact ⟨0,none,0,G9c _,by omega,rfl,rfl,PK0⟩
      case round=>
       obtain ⟨k,pK,cK,hkl,hgg,rfl,rfl,PK⟩:=hrel;clear PK0;have HTL:=hZ (show ((ks.map (Nd.toA A N)).take k).length=k from by rw [A3c,C6c,HNK.out];omega);obtain ⟨bn,on,hpn,hbn,hcn⟩:=PK.out.st.rd.node_cells (by rw [HQ.out.2.1];omega);simp only at hpn;subst hpn;obtain ⟨q1,q2⟩:=hcn i (v,ks) _ HQQ.out HKK.out;simp only at q1 q2;rw [HNK.out] at q2;have b3:=PK.out.st.d3;rw [HQ.out.2.1] at b3;simp only at b3;clear hcn
       by_cases hltk:k < nk
       . have tkk:decide ((k:Int) < (nk:Int))=true:=dT;obtain ⟨y,hy⟩:=A5a (E:=ks) (j:=k) (by rw [HNK.out];exact hltk);have SK:=PK.out.st.rd.ks i (v,ks) _ HQQ.out HKK.out;obtain ⟨bk,ok,ekp,hbk,hck⟩:=SK.cells (by simp only;rw [HNK.out];omega);have skle:=SK.le;have skcap:=SK.cap;simp only at ekp hck skle skcap;rw [HNK.out] at skle;subst ekp;have gy:=hck k y hy;have href:=HLOW.out y (u1b hy);have AD:=hZ (fun W (hA:SliceAt W pA cA A) (hB:SliceAt W pN cN N)=>I7b (r:=y) AL.out NL.out (by omega) (by omega) hA hB (by have:=href.2;rw [HQ.out.1] at this;exact this) (by have:=href.1;omega));have htb:=HTA.out y;obtain ⟨htb1,htb2⟩:=htb;have HHY:=hZ hy;have HTK:=hZ (show (ks.map (Nd.toA A N)).take (k+1)=(ks.map (Nd.toA A N)).take k ++ [Nd.toA A N y] from by
          rw [y6b,y7b,HHY.out];rfl)
         clear hck hbk hy href SK
         go_wp2_with (first
          | (go_at_call 113;refine (AD.out _ PK.out.st.ra.at_ PK.out.st.rn.at_).mono ?_;rintro e4 w4 ⟨rfl,E4⟩;have P4:=hZ (PK.out.ext E4);clear E4)
          | (at_builtin;refine A8a rfl _ _ rfl (n:=k) HTL.out rfl rfl (P4.out.ext (Ext.alloc (Ext.refl _) _)).rk (by go_simp) htb1 htb2 (by omega) ?_;intro g7 c7 w7 row7 hR7 hG7 hr7 hg7;have P7:=hZ ((P4.out.ext (Ext.alloc (Ext.refl _) _)).grow hR7 hG7 hr7 hg7 (hR7.lt rfl));clear hR7 hG7 hr7 hg7))
         go_roundg (nk-(k+1))
         case measure=>omega
         case rel=>exact ⟨k+1,_,_,by omega,H0c _,rfl,by go_num,(by rw [HTK.out];exact P7)⟩
       have:k=nk:=by omega
       subst this;have tkk:decide ((k:Int) < (k:Int))=false:=dF;have PF:Hid (RkSt w wr r Si ⟨ps,cs,po,co,pe,ce,some ⟨bn,on,none⟩,cn,K⟩ d gd pA cA A pN cN N pK cK (ks.map (Nd.toA A N))):=by
        have h1:=PK.out;rw [s6b (by rw [C6c,HNK.out];exact H0c _)] at h1;exact hZ h1
       have FAR:=hZ (show ∀ b o,pK=some ⟨b,o,none⟩->b ∉ r.own from fun b o e hm=>by
        have h1:=PF.out.st.hl b hm;obtain ⟨b',o',e',hb',_⟩:=PF.out.rk.at_.cells (by rw [C6c,HNK.out];exact hq0);have:=PF.out.lk b (by rw [e];simp [blk]);omega)
       clear PK HTL;have HDR:=hZ (show d.nodes.drop i=(v,ks) :: d.nodes.drop (i+1) from Nd.drop_cons HQQ.out)
       by_cases e0:er1=0
       . subst e0
         go_wp2_with (first
          | (go_at_call 114;refine (MA.out _ _ _ PF.out.st.now.toRW PF.out.rk.at_ FAR.out).mono ?_;rintro e6 w6 ⟨rfl,N6⟩;have P6:=hZ (PF.out.st.heap N6 e1 e2);clear N6)
          | (at_builtin;refine A8a rfl _ _ rfl (n:=i) NL.out rfl rfl (P6.out.ext (Ext.alloc (Ext.refl _) _)).rn (by go_simp) sm1 sm2 (by omega) ?_;intro g7 c7 w7 row7 hR7 hG7 hr7 hg7;have P7:=hZ ((P6.out.ext (Ext.alloc (Ext.refl _) _)).growN hR7 hG7 hr7 hg7 (hR7.lt rfl));clear hR7 hG7 hr7 hg7))
         go_roundg (n4-(i+1))
         case measure=>omega
         case rel=>exact ⟨i+1,S1,N ++ [a],_,_,by omega,H0c _,rfl,by go_num,P7,(show Aside _ from by rw [w2b,NL.out];rfl),(show Nd.putN A Sj d.nodes []=Nd.putN A S1 (d.nodes.drop (i+1)) (N ++ [a]) from by rw [EN.out,HDR.out];simp [Nd.putN,H1.out]),(show Aside _ from K1.out)⟩
       have t0:(er1 != 0)=true:=by simpa using e0
       have HE0:=hZ e0;clear e0
       go_wp2_with (go_at_call 114;refine (MA.out _ _ _ PF.out.st.now.toRW PF.out.rk.at_ FAR.out).mono ?_;rintro e6 w6 ⟨rfl,N6⟩;have P6:=hZ (PF.out.st.heap N6 e1 e2);clear N6)
       go_returns;have hput:Nd.put d S=some (0,er1,S1):=by
        rw [HPU.out er1 N S1 (by rw [EN.out,HDR.out];simp [Nd.putN,H1.out,HE0.out]),H5c HE0.out]
       have:=HP.out;rw [hput] at this;simp only [z7b,F1c] at this;obtain ⟨rfl,rfl,rfl⟩:=this;exact ⟨rfl,P6.out.now⟩
    have:i=n4:=by omega
    subst this;have tki:decide ((i:Int) < (i:Int))=false:=dF;have EN2:Nd.putN A Sj d.nodes []=some (0,N,Si):=by
     rw [EN.out,s5b (by rw [HQ.out.2.1];exact H0c _)];rfl
    have b3:=PI.out.d3;have b4:=PI.out.d4;rw [HQ.out.2.1] at b3;rw [HQ.out.2.2] at b4;simp only at b3;have HRT:=HROOT.out;rw [HQ.out.2.2,HQ.out.2.1] at HRT;have AD:=hZ (fun W (hA:SliceAt W pA cA A) (hB:SliceAt W pN cN N)=>I7b (r:=rt) AL.out NL.out (by omega) (by omega) hA hB (by have:=HRT.2;rw [HQ.out.1] at this;exact this) HRT.1);have hput:Nd.put d S=some (Nd.toA A N rt,0,Si):=by
     rw [HPU.out 0 N Si EN2,H4c (by simp),HQ.out.2.2]
    have HPT:=hZ hput;clear EN EN2 HRT hput
    go_wp2_with (go_at_call 113;refine (AD.out _ PI.out.ra.at_ PI.out.rn.at_).mono ?_;rintro e4 w4 ⟨rfl,E4⟩;have P4:=hZ (PI.out.ext E4);clear E4)
    go_returns;have:=HP.out;rw [HPT.out] at this;simp only [z7b,F1c] at this;obtain ⟨rfl,rfl,rfl⟩:=this;exact ⟨rfl,P4.out.now⟩
theorem b2a (h:SliceAt w p c l) (hp:p=none->c=0) (hl:l.length<=1000000) :
    Calls prog 103 #[.slice p l.length c] w (g1a w l):=by
  obtain ⟨i0,hi,hz0,hz1,hz2⟩:=info_parts (show (prog.info? 3).map (fun i=>(i.zero,i.size,i.bytes))=some (some (.int .i64 0),1,8) from by kernel_rfl);have main:∀ ad:Addr,p=some ad->(∀ j u,(ints l)[j]? = some u->w.cell? (ad.add j)=some u)->Calls prog 103 #[.slice p l.length c] w (g1a w l):=by
   rintro ad rfl hc;have HC:=hZ hc;have WF:=hZ h.wf;clear h hc hp;go_enter func103,ntmps103
   go_wp2_with (at_builtin;refine Go.wpList_append_own _ rfl _ _ 22 rfl w.heap.size 3 i0 (.int .i64 0) 1 8 underlying22 hi hz0 hz1 hz2 rfl (by decide) _ 0 [] rfl (A0c w _ _ _) ad l.length c (ints l) rfl ?qc1 ?qc2 ?qc3 ?qc4 ?qc5 ?qc6 ?_)
   case qc1=>simp [ints]
   case qc2=>exact HC.out
   case qc3=>intro u hu;obtain ⟨x,_,rfl⟩:=F7c.1 hu;rfl
   case qc4=>unfold maxLen;omega
   case qc5=>omega
   case qc6=>omega
   intro v' w1 hown hgrow hnil;go_wp2;go_returns;have hE:Ext w w1:=((Below.refl _ w)).grown hgrow (by simp) (by intro k hk;simp [Value.ownBlock] at hk)
   rcases hown.2 with ⟨rfl,hz⟩ | ⟨g,cap,cur,rfl,h1,h2⟩
   . have hz':l.length=0:=by omega
     have:l=[]:=p8b hz';subst this;exact ⟨none,0,rfl,Row.nil _ _,hE,.inr rfl⟩
   refine ⟨some ⟨g,0,none⟩,cap,by simp,⟨by simpa using hown,WF.out⟩,hE,.inl ?_⟩
   rcases Nat.eq_zero_or_pos l.length with h0 | h0
   . have:=hnil.2 (p8b h0)
     cases this
   exact h0
  by_cases h0:0 < l.length
  . obtain ⟨b,o,rfl,hb,hc⟩:=h.cells h0;refine main _ rfl fun j u hj=>?_
    obtain ⟨hj1,hj2⟩:=q5b.1 hj;have hj3:j < l.length:=by simpa [ints] using hj1
    rw [G8c,hc j l[j] (r1b hj3),<- hj2];simp [ints]
  have hl0:l=[]:=p8b (by omega)
  cases p with
  | some ad=>exact main ad rfl fun j u hj=>by subst hl0;simp [ints] at hj
  | none=>
   have:=hp rfl;subst this hl0;clear h hp main h0;go_enter func103,ntmps103;go_wp2;go_returns;exact ⟨none,0,rfl,Row.nil _ _,exx,.inr rfl⟩
def v5a (w:World) (E:List (Int × Int)) (e:Ending) (w':World):Prop:=∃ p c,e = .returned (.slice p E.length c)/\RdN w' 2 p c (E.map endC)/\Ext w w' /\ ∀ b ∈ blk p,w.heap.size<=b/\b < w'.heap.size
theorem E5b (E:List (Int × Int)):∀ x ∈ E.map endC,x.length=2:=fun x hx=>by
 obtain ⟨v,_,rfl⟩:=F7c.1 hx
 rfl
theorem E8b:∀ {E:List (Int × Int)} {j:Nat} {u:Value},(E.map endC).flatten[j]? = some u -> ∃ x,(E.map endC)[j / 2]? = some x/\x[j % 2]? = some u
 | [],j,u,h=>by simp at h
 | v :: r,0,u,h=>⟨endC v,rfl,by simpa [endC] using h⟩
 | v :: r,1,u,h=>⟨endC v,rfl,by simpa [endC] using h⟩
 | v :: r,j+2,u,h=>by
  have h2:(r.map endC).flatten[j]? = some u:=by simpa [endC] using h
  obtain ⟨x,h3,h4⟩:=E8b h2;refine ⟨x, ?_, ?_⟩
  . rw [show (j+2) / 2=j / 2+1 by omega]
    simpa using h3
  rw [show (j+2) % 2=j % 2 by omega];exact h4
theorem D0b {E:List (Int × Int)} (h:RdN w 2 p c (E.map endC)) (hp:p=none->c=0) (hl:E.length<=1000000) :
    Calls prog 104 #[.slice p E.length c] w (v5a w E):=by
  obtain ⟨i0,hi,hz0,hz1,hz2⟩:=info_parts (show (prog.info? 43).map (fun i=>(i.zero,i.size,i.bytes))=some (some (.agg #[.int .u8 0,.int .i64 0]),2,16) from by kernel_rfl);have fl:(E.map endC).flatten.length=E.length * 2:=by rw [k4a (E5b E),C6c]
  have main:∀ ad:Addr,p=some ad->(∀ j u,(E.map endC).flatten[j]? = some u->w.cell? (ad.add j)=some u)->Calls prog 104 #[.slice p E.length c] w (v5a w E):=by
   rintro ad rfl hc;have HC:=hZ hc;have FL:=hZ fl;have HONE:=hZ (show ∀ u ∈ (E.map endC).flatten,u.oneCell'=true from fun u hu=>by
    obtain ⟨x,hx,hu⟩:=List.mem_flatten.1 hu;obtain ⟨v,_,rfl⟩:=F7c.1 hx;simp only [endC,E6c,A9c,or_false] at hu
    rcases hu with rfl | rfl <;> rfl)
   clear h hc hp fl;obtain ⟨n,hn⟩:∃ n,E.length=n:=⟨_,rfl⟩
   have HN:=hZ hn;rw [hn] at hl ⊢;clear hn;go_enter func104,ntmps104
   go_wp2_with (at_builtin;refine Go.wpList_append_own _ rfl _ _ 46 rfl w.heap.size 43 i0 (.agg #[.int .u8 0,.int .i64 0]) 2 16 underlying46 hi hz0 hz1 hz2 rfl (by decide) _ 0 [] rfl (A0c w _ _ _) ad n c (E.map endC).flatten rfl ?qc1 ?qc2 ?qc3 ?qc4 ?qc5 ?qc6 ?_)
   case qc1=>rw [FL.out,HN.out]
   case qc2=>exact HC.out
   case qc3=>exact HONE.out
   case qc4=>unfold maxLen;omega
   case qc5=>omega
   case qc6=>omega
   intro v' w1 hown hgrow hnil;go_wp2;go_returns;have hE:Ext w w1:=((Below.refl _ w)).grown hgrow (by simp) (by intro k hk;simp [Value.ownBlock] at hk)
   rcases hown.2 with ⟨rfl,hz⟩ | ⟨g,cap,cur,rfl,h1,h2⟩
   . have hz':n=0:=by omega
     subst hz';have:E=[]:=p8b HN.out;subst this;exact ⟨none,0,rfl,(RowN.nil w1 2 43).rd,hE,by simp [blk]⟩
   have hown':=hown
   have R:RowN w1 2 43 (some ⟨g,0,none⟩) cap (E.map endC):=⟨by
    rw [C6c,HN.out];exact ⟨hown'.1,hown'.2.imp id (fun ⟨g,cap,cur,e,h1,r⟩=>⟨g,cap,cur,e,G9c _,r⟩)⟩,E5b E⟩
   refine ⟨some ⟨g,0,none⟩,cap,by simp [HN.out],R.rd,hE,fun b hb=>?_⟩;have:b=g:=by simpa [blk] using hb
   subst this;exact ⟨h1,(R.ptr rfl).2⟩
  by_cases h0:0 < E.length
  . obtain ⟨b,o,rfl,hb,hc⟩:=h.cells (by simpa using h0);refine main _ rfl fun j u hj=>?_
    rw [G8c];obtain ⟨x,h1,h2⟩:=E8b hj;have:=hc _ x _ u h1 h2;rw [show j / 2 * 2+j % 2=j by omega] at this;exact this
  have hl0:E=[]:=p8b (by omega)
  cases p with
  | some ad=>exact main ad rfl fun j u hj=>by subst hl0;simp at hj
  | none=>
   have:=hp rfl;subst this hl0;clear h hp main h0;go_enter func104,ntmps104;go_wp2;go_returns;exact ⟨none,0,rfl,(RowN.nil _ 2 43).rd,exx,by simp [blk]⟩
def x8a (d:Nd.Dia):Bool:=Hp.c6a d.sizes d.order && (decide (d.ends.length<=40) && (decide (d.nodes.length<=60) && d.nodes.all fun q=>decide (q.2.length<=14)))
theorem thin14 {L:DgL} {d:Nd.Dia} (h:DgRd w L d.sizes d.order d.ends d.nodes) :
    Calls prog 34 #[dgV L d.sizes.length d.order.length d.ends.length d.nodes.length d.root] w (Rt w (.bool (x8a d))):=by
  have SL:=hZ (fun W (hE:Ext w W)=>dSlim (h.s.ext hE) (h.o.ext hE));have H:=hZ h;have l3:=h.e.le;have c3:=h.e.cap;have l4:=h.n.le;have c4:=h.n.cap;rw [C6c] at l3;rw [A7a h.kl] at l4;have HT:=hZ (show x8a d=(Hp.c6a d.sizes d.order && (decide (d.ends.length<=40) && (decide (d.nodes.length<=60) && d.nodes.all fun q=>decide (q.2.length<=14)))) from rfl);generalize x8a d=res at *;generalize hsl:Hp.c6a d.sizes d.order=sl at *;have mixed:prog.follows .mixedOrders=true:=by kernel_rfl
  clear h hsl;unfold dgV DgL.cells;obtain ⟨n3,h3⟩:∃ n,d.ends.length=n:=⟨_,rfl⟩
  obtain ⟨n4,h4⟩:∃ n,d.nodes.length=n:=⟨_,rfl⟩
  have HQ:=hZ h4;rw [h3,h4] at HT;rw [h3] at l3 ⊢;rw [h4] at l4 ⊢;clear h3 h4;generalize d.sizes.length=n1 at *;generalize d.order.length=n2 at *;generalize d.root=rt at *
  cases sl with
  | false=>
   have e:res=false:=HT.out;subst e;go_enter func34,ntmps34
   go_wp2_with (go_at_call 56;refine m4_ (SL.out _ (exx)) fun w1 hb1 hc1 hf1 hs1=>?_;obtain ⟨hz1_0,hc1_0,hf1_0⟩:=c3_ hb1 w.heap.size)
   go_returns;exact ⟨rfl,exx⟩
  | true=>
   by_cases h3:n3<=40
   case neg=>
    have e:res=false:=by rw [HT.out,D7c h3];rfl
    have t3:decide ((n3:Int) > 40)=true:=dT;subst e;go_enter func34,ntmps34
    go_wp2_with (go_at_call 56;refine m4_ (SL.out _ (exx)) fun w1 hb1 hc1 hf1 hs1=>?_;obtain ⟨hz1_0,hc1_0,hf1_0⟩:=c3_ hb1 w.heap.size)
    go_returns;exact ⟨rfl,exx⟩
   case pos=>
   have t3:decide ((n3:Int) > 40)=false:=dF
   by_cases h4:n4<=60
   case neg=>
    have e:res=false:=by rw [HT.out,E5c h3,D7c h4];rfl
    have t4:decide ((n4:Int) > 60)=true:=dT;subst e;go_enter func34,ntmps34
    go_wp2_with (go_at_call 56;refine m4_ (SL.out _ (exx)) fun w1 hb1 hc1 hf1 hs1=>?_;obtain ⟨hz1_0,hc1_0,hf1_0⟩:=c3_ hb1 w.heap.size)
    go_returns;exact ⟨rfl,exx⟩
   case pos=>
   have t4:decide ((n4:Int) > 60)=false:=dF;have HA:Hid (res=d.nodes.all fun q=>decide (q.2.length<=14)):=hZ (by rw [HT.out,E5c h3,E5c h4];rfl);clear HT;go_enter func34,ntmps34
   go_wp2_with (go_at_call 56;refine m4_ (SL.out _ (exx)) fun w1 hb1 hc1 hf1 hs1=>?_;obtain ⟨hz1_0,hc1_0,hf1_0⟩:=c3_ hb1 w.heap.size)
   refine B0a (F:=fun W=>Hid (Ext w W)/\W.cell? ⟨w.heap.size,3,none⟩=some (.slice L.pn n4 L.cn)) ⟨hZ (exx),by have:=hc1_0 3;go_simp⟩ ?_;intro w2 ⟨E2,g3⟩;clear hb1 hc1 hf1 hs1 hz1_0 hc1_0 hf1_0;generalize w.heap.size=gd at g3 ⊢
   go_loopg [3] n4 (fun g i wr=>∃ j:Nat,j<=n4/\n4-j<=g/\i = .int .i64 j/\Hid (Ext w wr)/\Hid (wr.cell? ⟨gd,3,none⟩=some (.slice L.pn n4 L.cn))/\Aside (∀ (m:Nat) q,m < j->d.nodes[m]? = some q->q.2.length<=14))
   case atStart=>exact ⟨0,G9c _,by omega,rfl,E2,hZ g3,fun m q hm=>absurd hm (D0c _)⟩
   case round=>
    obtain ⟨j,hj,hg,rfl,E,G3,B⟩:=hrel;clear E2 g3;have g3:=G3.out
    by_cases hlt:j < n4
    . have tk:decide ((j:Int) < (n4:Int))=true:=dT;obtain ⟨q,hq⟩:=A5a (E:=d.nodes) (j:=j) (by rw [HQ.out];exact hlt);obtain ⟨kk,hkk⟩:=A5a (E:=L.K) (j:=j) (by rw [H.out.kl,HQ.out];exact hlt);obtain ⟨bn,on,hpn,hbn,hcn⟩:=(H.out.ext E.out).node_cells (by rw [HQ.out];omega);obtain ⟨q1,q2⟩:=hcn j q _ hq hkk;have HQJ:=hZ hq;have HPN:=hZ hpn;rw [hpn] at g3;have G3':=G3.out;clear hcn hq hkk hpn
      by_cases hl:q.2.length<=14
      . have tl:decide ((q.2.length:Int) > 14)=false:=dF;have HL:=hZ hl;clear hl
        go_wp2_with fail
        go_roundg (n4-(j+1))
        case measure=>omega
        case rel=>exact ⟨j+1,by omega,H0c _,by go_num,E,G3,(show Aside _ from fun m q' hm hq'=>by
         by_cases e:m=j
         . subst e;have:=HQJ.out;rw [hq'] at this
           cases this
           exact HL.out
         . exact B.out m q' (by omega) hq')⟩
      have tl:decide ((q.2.length:Int) > 14)=true:=dT;have er:res=false:=by
       rw [HA.out];exact U0a HQJ.out (D7c hl)
      subst er;clear hl
      go_wp2_with fail
      go_returns;exact ⟨rfl,E.out⟩
    have tk:decide ((j:Int) < (n4:Int))=false:=dF;have hjn:j=n4:=by omega
    have er:res=true:=by
     rw [HA.out];exact f6a fun m q hq=>E5c (B.out m q (by rw [hjn,<- HQ.out];exact (q5b.1 hq).1) hq)
    subst er;clear hjn
    go_wp2_with fail
    go_returns;exact ⟨rfl,E.out⟩
def e6a (W:World) (v:Value) (q:Bool) (c0 c1 c2 c4:Value):Prop:=∃ (g:Nat) (d0 d1 d2 d3 d4:Value),v = .pointer (some ⟨g,0,none⟩)/\Own5 W g d0 d1 d2 d3 d4/\(q=true->d0=c0/\d1=c1/\d2=c2/\d3 = .slice none 0 0/\d4=c4)
theorem e6a.ext {W:World} {v c0 c1 c2 c4:Value} {q:Bool} (h:e6a W v q c0 c1 c2 c4) (k:Ext W W'):e6a W' v q c0 c1 c2 c4:=by
 obtain ⟨g,d0,d1,d2,d3,d4,e,h1,h2⟩:=h
 exact ⟨g,d0,d1,d2,d3,d4,e,h1.ext k,h2⟩
theorem e6a.lt {W:World} {v c0 c1 c2 c4:Value} {q:Bool} (h:e6a W v q c0 c1 c2 c4):∀ b ∈ vb2 v,b < W.heap.size:=fun b hb=>by
 obtain ⟨g,d0,d1,d2,d3,d4,rfl,h1,_⟩:=h
 rw [w8b.1 hb]
 exact cell_lt h1.a0
def Z3a (w0 W:World) (v:Value):Prop:=∀ b ∈ vb2 v,w0.heap.size<=b/\b < W.heap.size
structure CpK (w0:World) (z o:List Int) (E:List (Int × Int)) (rt:Value) (L:Nat->Bool) (W:World) (v1 v2 v3 v4 v5:Value):Prop where
 ext:Ext w0 W
 sz:L 2=true->(∃ p c,v1 = .slice p z.length c/\SliceAt W p c z)/\Z3a w0 W v1
 so:L 5=true->(∃ p c,v2 = .slice p o.length c/\SliceAt W p c o/\(0 < o.length \/ p=none))/\Z3a w0 W v2
 se:L 8=true->(∃ p c,v3 = .slice p E.length c/\RdN W 2 p c (E.map endC))/\Z3a w0 W v3
 b:L 11=true->L 2=true/\L 5=true/\L 8=true/\v4 = .agg #[v1,v2,v3,.slice none 0 0,rt]
 x:L 12=true->e6a W v5 (L 13) v1 v2 v3 rt /\ ∀ b ∈ vb2 v5,w0.heap.size<=b
 zx:L 2=true->L 12=true -> ∀ b ∈ vb2 v1,b ∉ vb2 v5
 ox:L 5=true->L 12=true -> ∀ b ∈ vb2 v2,b ∉ vb2 v5
 ex:L 8=true->L 12=true -> ∀ b ∈ vb2 v3,b ∉ vb2 v5
 p:L 13=true->L 11=true/\L 12=true
namespace CpK
variable {w0 W W':World} {z o:List Int} {E:List (Int × Int)} {L:Nat->Bool} {rt v1 v2 v3 v4 v5 v:Value}
theorem no {p:Prop} {a:Bool} (h0:a=false) (h:a=true):p:=by rw [h0] at h;cases h
theorem fr {W:World} {v:Value} (h:Z3a w0 W v) (y:Ext W W'):Z3a w0 W' v:=fun b hb=>⟨(h b hb).1,x4b (h b hb).2 y.le⟩
theorem sz' (k:CpK w0 z o E rt L W v1 v2 v3 v4 v5) (y:Ext W W') (h:L 2=true):(∃ p c,v1 = .slice p z.length c/\SliceAt W' p c z)/\Z3a w0 W' v1:=by
 obtain ⟨⟨p,c,e,h1⟩,h2⟩:=k.sz h
 exact ⟨⟨p,c,e,h1.ext y⟩,fr h2 y⟩
theorem so' (k:CpK w0 z o E rt L W v1 v2 v3 v4 v5) (y:Ext W W') (h:L 5=true):(∃ p c,v2 = .slice p o.length c/\SliceAt W' p c o/\(0 < o.length \/ p=none))/\Z3a w0 W' v2:=by
 obtain ⟨⟨p,c,e,h1,h3⟩,h2⟩:=k.so h
 exact ⟨⟨p,c,e,h1.ext y,h3⟩,fr h2 y⟩
theorem se' (k:CpK w0 z o E rt L W v1 v2 v3 v4 v5) (y:Ext W W') (h:L 8=true):(∃ p c,v3 = .slice p E.length c/\RdN W' 2 p c (E.map endC))/\Z3a w0 W' v3:=by
 obtain ⟨⟨p,c,e,h1⟩,h2⟩:=k.se h
 exact ⟨⟨p,c,e,h1.ext y⟩,fr h2 y⟩
theorem x' (k:CpK w0 z o E rt L W v1 v2 v3 v4 v5) (y:Ext W W') (h:L 12=true):e6a W' v5 (L 13) v1 v2 v3 rt /\ ∀ b ∈ vb2 v5,w0.heap.size<=b:=⟨(k.x h).1.ext y,(k.x h).2⟩
theorem new (h:∀ b ∈ vb2 v,W.heap.size<=b/\b < W'.heap.size) (k:CpK w0 z o E rt L W v1 v2 v3 v4 v5) (h12:L 12=true):∀ b ∈ vb2 v,b ∉ vb2 v5:=fun b hb hm=>by
 have:=(k.x h12).1.lt b hm
 have:=(h b hb).1
 omega
theorem late (k:CpK w0 z o E rt L W v1 v2 v3 v4 v5) (h13:L 13=true) {P:Prop} (h:L 2=false \/ L 5=false \/ L 8=false \/ L 12=false):P:=by
 obtain ⟨h1,h2⟩:=k.p h13
 obtain ⟨h3,h4,h5,_⟩:=k.b h1
 rcases h with h | h | h | h
 . exact no h h3
 . exact no h h4
 . exact no h h5
 exact no h h2
theorem box' (k:CpK w0 z o E rt L W v1 v2 v3 v4 v5) (y:Ext W W') (h:L 12=true) (hn:L 2=false \/ L 5=false \/ L 8=false \/ L 12=false) {u1 u2 u3:Value}:e6a W' v5 (L 13) u1 u2 u3 rt /\ ∀ b ∈ vb2 v5,w0.heap.size<=b:=by
 obtain ⟨⟨g,d0,d1,d2,d3,d4,e,h1,_⟩,h3⟩:=k.x' y h
 exact ⟨⟨g,d0,d1,d2,d3,d4,e,h1,fun h13=>k.late h13 hn⟩,h3⟩
theorem frn {v:Value} (k:CpK w0 z o E rt L W v1 v2 v3 v4 v5) (h:∀ b ∈ vb2 v,W.heap.size<=b/\b < W'.heap.size):Z3a w0 W' v:=fun b hb=>⟨G5c k.ext.le (h b hb).1,(h b hb).2⟩
theorem step2 (k:CpK w0 z o E rt L W v1 v2 v3 v4 v5) (hL:L 2=false) (y:Ext W W') (hs:SliceAt W' p c z) (hb:∀ b ∈ vb2 (.slice p z.length c),W.heap.size<=b/\b < W'.heap.size):CpK w0 z o E rt (also L 2) W' (.slice p z.length c) v2 v3 v4 v5:=
 ⟨k.ext.trans y,fun _=>⟨⟨p,c,rfl,hs⟩,k.frn hb⟩,k.so' y,k.se' y,fun h=>no hL (k.b h).1,fun h=>k.box' y h (.inl hL),fun _ h=>new hb k h,k.ox,k.ex,k.p⟩
theorem step5 (k:CpK w0 z o E rt L W v1 v2 v3 v4 v5) (hL:L 5=false) (y:Ext W W') (hs:SliceAt W' p c o) (ho:0 < o.length \/ p=none) (hb:∀ b ∈ vb2 (.slice p o.length c),W.heap.size<=b/\b < W'.heap.size):CpK w0 z o E rt (also L 5) W' v1 (.slice p o.length c) v3 v4 v5:=
 ⟨k.ext.trans y,k.sz' y,fun _=>⟨⟨p,c,rfl,hs,ho⟩,k.frn hb⟩,k.se' y,fun h=>no hL (k.b h).2.1,fun h=>k.box' y h (.inr (.inl hL)),k.zx,fun _ h=>new hb k h,k.ex,k.p⟩
theorem W8b (k:CpK w0 z o E rt L W v1 v2 v3 v4 v5) (hL:L 8=false) (y:Ext W W') (hs:RdN W' 2 p c (E.map endC)) (hb:∀ b ∈ vb2 (.slice p E.length c),W.heap.size<=b/\b < W'.heap.size):CpK w0 z o E rt (also L 8) W' v1 v2 (.slice p E.length c) v4 v5:=
 ⟨k.ext.trans y,k.sz' y,k.so' y,fun _=>⟨⟨p,c,rfl,hs⟩,k.frn hb⟩,fun h=>no hL (k.b h).2.2.1,fun h=>k.box' y h (.inr (.inr (.inl hL))),k.zx,k.ox,fun _ h=>new hb k h,k.p⟩
theorem u0a (k:CpK w0 z o E rt L W v1 v2 v3 v4 v5) (hL:L 11=false) (h2:L 2=true) (h5:L 5=true) (h8:L 8=true):CpK w0 z o E rt (also L 11) W v1 v2 v3 (.agg #[v1,v2,v3,.slice none 0 0,rt]) v5:=
 ⟨k.ext,k.sz,k.so,k.se,fun _=>⟨h2,h5,h8,rfl⟩,k.x,k.zx,k.ox,k.ex,fun h=>no hL (k.p h).1⟩
theorem R4b (k:CpK w0 z o E rt L W v1 v2 v3 v4 v5) (hL:L 12=false) (t:TypeId):CpK w0 z o E rt (also L 12) (W.alloc (.cells #[.slice none 0 0,.slice none 0 0,.slice none 0 0,.slice none 0 0,.int .i64 0] t)) v1 v2 v3 v4 (.pointer (some ⟨W.heap.size,0,none⟩)):=by
 have y:Ext W (W.alloc (.cells #[.slice none 0 0,.slice none 0 0,.slice none 0 0,.slice none 0 0,.int .i64 0] t)):=Ext.alloc (Ext.refl W) _
 refine ⟨k.ext.trans y,k.sz' y,k.so' y,k.se' y,k.b,fun _=>⟨⟨W.heap.size,.slice none 0 0,.slice none 0 0,.slice none 0 0,.slice none 0 0,.int .i64 0,rfl,⟨by go_simp,by go_simp,by go_simp,by go_simp,by go_simp,fun o=>by go_simp⟩,fun h=>k.late h (.inr (.inr (.inr hL)))⟩,fun b hb=>by rw [w8b.1 hb];exact k.ext.le⟩,fun h _ b hb hm=>?_,fun h _ b hb hm=>?_,fun h _ b hb hm=>?_,fun h=>no hL (k.p h).2⟩
 . have:=((k.sz h).2 b hb).2;rw [w8b.1 hm] at this;simp at this
 . have:=((k.so h).2 b hb).2;rw [w8b.1 hm] at this;simp at this
 have:=((k.se h).2 b hb).2;rw [w8b.1 hm] at this;simp at this
theorem step13 (k:CpK w0 z o E rt L W v1 v2 v3 v4 (.pointer (some ⟨g,0,none⟩))) (h11:L 11=true) (h12:L 12=true):CpK w0 z o E rt (also L 13) (((((W.setCell ⟨g,0,none⟩ v1).setCell ⟨g,1,none⟩ v2).setCell ⟨g,2,none⟩ v3).setCell ⟨g,3,none⟩ (.slice none 0 0)).setCell ⟨g,4,none⟩ rt) v1 v2 v3 v4 (.pointer (some ⟨g,0,none⟩))/\Ext w0 (((((W.setCell ⟨g,0,none⟩ v1).setCell ⟨g,1,none⟩ v2).setCell ⟨g,2,none⟩ v3).setCell ⟨g,3,none⟩ (.slice none 0 0)).setCell ⟨g,4,none⟩ rt):=by
 obtain ⟨h2,h5,h8,_⟩:=k.b h11
 have y:But [g] W (((((W.setCell ⟨g,0,none⟩ v1).setCell ⟨g,1,none⟩ v2).setCell ⟨g,2,none⟩ v3).setCell ⟨g,3,none⟩ (.slice none 0 0)).setCell ⟨g,4,none⟩ rt):=(((((But.refl _ _).setCell (.inl (by simp)) _).setCell (.inl (by simp)) _).setCell (.inl (by simp)) _).setCell (.inl (by simp)) _).setCell (.inl (by simp)) _
 have hg:=(k.x h12).2 g (by simp [vb2])
 have EX:=y.D3a k.ext fun b hb=>by rw [w8b.1 hb];exact hg
 have nb:∀ {p:Option Addr} {n c:Nat},(∀ b ∈ vb2 (.slice p n c),b ∉ vb2 (.pointer (some ⟨g,0,none⟩))) -> ∀ b o,p=some ⟨b,o,none⟩->b ∉ [g]:=fun h b o e hm=>h b (by subst e;simp [vb2,blk]) (by rw [w8b.1 hm];simp [vb2])
 refine ⟨⟨EX,fun h=>?_,fun h=>?_,fun h=>?_,k.b,fun h=>?_,k.zx,k.ox,k.ex,fun _=>⟨h11,h12⟩⟩,EX⟩
 . have z:=k.zx h2 h12;obtain ⟨⟨p,c,rfl,h1⟩,h3⟩:=k.sz h;exact ⟨⟨p,c,rfl,h1.but y (nb z)⟩,fun b hb=>⟨(h3 b hb).1,x4b (h3 b hb).2 y.size⟩⟩
 . have z:=k.ox h5 h12;obtain ⟨⟨p,c,rfl,h1,h4⟩,h3⟩:=k.so h;exact ⟨⟨p,c,rfl,h1.but y (nb z),h4⟩,fun b hb=>⟨(h3 b hb).1,x4b (h3 b hb).2 y.size⟩⟩
 . have z:=k.ex h8 h12;obtain ⟨⟨p,c,rfl,h1⟩,h3⟩:=k.se h;exact ⟨⟨p,c,rfl,h1.but y (nb z)⟩,fun b hb=>⟨(h3 b hb).1,x4b (h3 b hb).2 y.size⟩⟩
 obtain ⟨⟨g',d0,d1,d2,d3,d4,e,h1,_⟩,h3⟩:=k.x h12
 cases e
 exact ⟨⟨g,_,_,_,_,_,rfl,h1.set,fun _=>⟨rfl,rfl,rfl,rfl,rfl⟩⟩,h3⟩
end CpK
end Go.Proofs.YtdokmmhjmclmnaaGreat
