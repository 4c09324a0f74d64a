/- Part 34 of a proof. -/
import Derived.Test.YtdokmmhjmclmnaaGreatMU33
set_option linter.unusedSimpArgs false
set_option linter.unusedVariables false
set_option linter.unusedSectionVars false
set_option linter.unnecessarySimpa false
set_option maxHeartbeats 16000000
set_option maxRecDepth 100000
namespace Go.Proofs.YtdokmmhjmclmnaaGreat
open Go.Proofs.Tryz
variable {W' w w' w0 wb:World} {B a b bx c ca cap ce cn f g i j k lb m n qc:Nat} {choice e t x:Int} {A W fs ks l o z:List Int} {D T Y:List Nat} {p p2 pa pe pn q:Option Addr} {d:Hd} {S S':Hp.Hs} {r:Rd} {L:List Hp.Tl} {M:List (Nat × Int)} {s:Hp.Sc}
open Go.RowKit Go.Maps
theorem f4b {P Q L':List Hp.Tl} {ch ch':Nat->List Nat} (h:RW w r S) (hw:Hp.Wf S B (P ++ ⟨a,k,true⟩ :: Q) ch) (hn:Hp.New S t fs) (hq:SliceAt w q qc fs) (hfar:∀ b o,q=some ⟨b,o,none⟩->b ∉ r.own)
    (hmiss:∀ b ∈ S.taken,¬ (Hp.ow S.words b=t/\Hp.fz (Hp.ow S.words) S.sizes b=fs)) (hno:∀ v ∈ P,v.fr=true -> ¬ Hp.Fits (4+fs.length) v) (hfit:Hp.Fits (4+fs.length) ⟨a,k,true⟩) (hput:Hp.Put S S' t fs a) (hw':Hp.Wf S' B L' ch')
    (hnear:∀ W,Hp.P6a S t fs a k fs.length W->Hp.Near L' W S'.words) :
    Calls prog 162 #[.pointer (some ⟨r.rb,0,none⟩),.int .i64 t,.slice q fs.length qc] w (C9a r w (.int .i64 a) S'):=by
  have SM:=hZ (r4a h.at_ hw hq hmiss);have H:=hZ (RNow.refl h);have wd:=hn.wide hw;have e4:(4:Int)+(fs.length:Int)=((4+fs.length:Nat):Int):=by omega
  have TK:=hZ (fun W (hW:Ext w W)=>V9b (h.ext hW) hw (wd:=4+fs.length) (by omega) (by omega) hno hfit);have CK:=hZ (Hp.b0b hw hn);have HN:=hZ hn;have HW:=hZ hw;have HW':=hZ hw';have HQ:=hZ hq;have HFAR:=hZ hfar;have HPUT:=hZ hput;have HNEAR:=hZ hnear;have HFIT:=hZ hfit;have hu:(⟨a,k,true⟩:Hp.Tl) ∈ P ++ ⟨a,k,true⟩ :: Q:=by simp
  have HU:=hZ hu;have mu:=hw.parts.lay.mem hu;have mu1:17<=a:=mu.1;have mu2:a+k<=S.words.length:=mu.2.1;have mu3:4+fs.length<=k:=hfit.le.1;have hi:=hw.hi;have hle:=h.le;have hcap:=h.cap;have htg:=Hp.Q8a hw.fr.toFr hn.tag;have qle:=hq.le;have qcap:=hq.cap;have c16:=Hp.P0a t fs;obtain ⟨n,hnn⟩:∃ n,S.words.length=n:=⟨_,rfl⟩
  have EN:=hZ hnn;rw [hnn] at mu2 hi hle;obtain ⟨c,hc⟩:∃ c,Hp.cz t fs=c:=⟨_,rfl⟩
  have EC:=hZ hc;rw [hc] at c16 CK;obtain ⟨m,hm⟩:∃ m,fs.length=m:=⟨_,rfl⟩
  have EM:=hZ hm;rw [hm] at wd mu3 qle SM ⊢;have w4:IntKind.i64.wrap ((4:Int)+(m:Int))=(4:Int)+(m:Int):=E4c _ (by omega);have w5:wrap64 ((4:Int)+(m:Int))=(4:Int)+(m:Int):=z8b _ ⟨by omega,by omega⟩;have TK2:Hid (∀ W,Ext w W->Calls prog 182 #[.pointer (some ⟨r.rb,0,none⟩),.int .i64 (4+(m:Int))] W (F6b W r S a k (4+m))):=hZ (fun W hW=>by
   have:=TK.out W hW;rw [EM.out] at this;rw [show (4:Int)+(m:Int)=((4+m:Nat):Int) by omega];exact this)
  have a0:((a:Int) == 0)=false:=by simp;omega
  clear h hw hn hq hfar hmiss hno hfit hput hw' hnear hu mu hnn hc hm e4 TK;go_enter func162,ntmps162
  go_upto_region 7 with (first
   | (go_at_call 133;refine m4_ (SM.out) fun w1 hb1 hc1 hf1 hs1=>?_)
   | (go_at_call 182;refine (TK2.out _ hb1).mono ?_;rintro e w2 ⟨W1,rfl,hT,hN⟩))
  have N2:=hZ ((H.out.ext hb1).trans hN);have TOOK:=hZ hT;have SQ:=hZ (HQ.out.but N2.out.but HFAR.out);clear hN hT hb1 hc1 hf1 hs1 SM TK2 w4 w5;have CH:=hZ (by have:=g5b SQ.out CK.out;rw [EM.out] at this;exact this);go_upto_region 8 with (go_at_call 137;refine m4_ (CH.out) fun w3 hb3 hc3 hf3 hs3=>?_)
  have N3:=hZ (N2.out.ext hb3);have SQ3:=hZ (SQ.out.ext hb3);clear N2 SQ CH hb3 hc3 hf3 hs3;have vl:W1.length=n:=TOOK.out.len.trans EN.out;have VL:=hZ vl;have c2:=N3.out.len vl;have z1:=N3.out.toRW.lt;have z2:=N3.out.words.lt;have gc:=N3.out.word (j:=c) (x:=_) (by rw [vl];omega) rfl;have cn:c < n:=by omega
  have an:a < n:=by omega
  obtain ⟨p1,p2,p3,p4⟩:IntKind.i64.wrap (((a:Nat):Int)+1)=((a:Nat):Int)+1/\(0:Int)<=((a:Nat):Int)+1/\((a:Nat):Int)+1 < ((n:Nat):Int)/\(((a:Nat):Int)+1).toNat=a+1:=⟨E4c _ (by omega),by omega,by omega,by omega⟩
  obtain ⟨q1,q2,q3,q4⟩:IntKind.i64.wrap (((a:Nat):Int)+2)=((a:Nat):Int)+2/\(0:Int)<=((a:Nat):Int)+2/\((a:Nat):Int)+2 < ((n:Nat):Int)/\(((a:Nat):Int)+2).toNat=a+2:=⟨E4c _ (by omega),by omega,by omega,by omega⟩
  obtain ⟨s1,s2,s3,s4⟩:IntKind.i64.wrap (((a:Nat):Int)+3)=((a:Nat):Int)+3/\(0:Int)<=((a:Nat):Int)+3/\((a:Nat):Int)+3 < ((n:Nat):Int)/\(((a:Nat):Int)+3).toNat=a+3:=⟨E4c _ (by omega),by omega,by omega,by omega⟩
  clear vl;refine wp_region_any (by kernel_rfl) ?_;refine' tkB 9 ?_;refine' tkB 10 ?_;refine' tkB 15 ?_;refine' tkB 16 ?_;refine' tkB 21 ?_;refine' tkB 22 ?_;have pr66a:=Ext.r c2
  have pr66b:=Ext.r gc
  refine B3a (S:=fun W=>Ext w3 W) (R:=Ext) 31 25 Ext.refl ?_ ?_ (by rfl)
  . exact Ext.drew exx
  refine' tkY 0 ?_;refine' tkY 1 ?_;refine' tkY 2 ?_;refine' tkY 3 ?_;refine' tkY 4 ?_;refine' tkY 5 ?_;refine' tkY 6 ?_;refine' tkY 7 ?_;refine' tkY 8 ?_;refine' tkY 11 ?_;refine' tkY 12 ?_;refine' tkY 13 ?_;refine' tkY 14 ?_;refine' tkY 17 ?_;refine' tkY 18 ?_;refine' tkY 19 ?_;refine' tkY 20 ?_;refine' tkY 23 ?_;refine' tkY 24 ?_;refine' tkY 25 ?_;refine' tkY 26 ?_;refine' tkY 27 ?_;refine' tkY 28 ?_;refine' tkY 29 ?_;refine' tkY 30 ?_;refine A9a (by kernel_rfl) ?_;intro wd _ Ewd;clear pr66a pr66b;simp only [v0b,D9c];clear c2 z1 z2 gc;have ND:=hZ (N3.out.ext Ewd);have bc:=N3.out.toRW.bound (j:=c) (by show c < W1.length;rw [VL.out];omega);have BC:=hZ bc;have c2:=ND.out.len VL.out;have z1:=ND.out.toRW.lt;have z2:=ND.out.words.lt;have g0:=ND.out.word (j:=a) (x:=_) (by rw [VL.out];omega) rfl;have g1:=ND.out.word (j:=a+1) (x:=_) (by rw [VL.out];omega) rfl;have g2:=ND.out.word (j:=a+2) (x:=_) (by rw [VL.out];omega) rfl;have g3:=ND.out.word (j:=a+3) (x:=_) (by rw [VL.out];omega) rfl;have r0:=ND.out.words.froz a;have r1:=ND.out.words.froz (a+1);have r2:=ND.out.words.froz (a+2);have r3:=ND.out.words.froz (a+3);have H1:=hZ (ND.out.set (j:=a) (v:=t) (by show a < W1.length;rw [VL.out];omega) (by omega) (by omega));have H2:=hZ (H1.out.set (j:=a+1) (v:=0) (by simp;rw [VL.out];omega) (by omega) (by omega));have H3:=hZ (H2.out.set (j:=a+2) (v:=0) (by simp;rw [VL.out];omega) (by omega) (by omega));have H4:=hZ (H3.out.set (j:=a+3) (v:=Hp.ow W1 c) (by simp;rw [VL.out];omega) BC.out.1 BC.out.2);clear p1 p2 p3 p4 q1 q2 q3 q4 s1 s2 s3 s4 bc;go_upto_region 9 with (fail)
  refine RNow.cut H4.out ?_;intro w5 N5';have N5:=hZ N5';clear N5' H1 H2 H3 H4 g0 g1 g2 g3 r0 r1 r2 r3 c2 z1 z2 ND;have c2:=N5.out.len (n:=n) (by simp;exact VL.out);have z1:=N5.out.toRW.lt;have z2:=N5.out.words.lt;have g0:=N5.out.word (j:=c) (x:=_) (by simp;rw [VL.out];omega) rfl;have r0:=N5.out.words.froz c;have H5:=hZ (N5.out.set (j:=c) (v:=(a:Int)) (by simp;rw [VL.out];omega) (by omega) (by omega));go_upto_region 10 with (fail)
  refine RNow.cut H5.out ?_;intro w6 N6';have N6:=hZ N6';clear N6' H5 g0 r0 c2 z1 z2 N5;have AD0:=hZ (by have:=TOOK.out;rw [<- EM.out] at this;have:=Hp.Took.adding HW.out HN.out HU.out HFIT.out this;rw [EC.out] at this;exact this);clear TOOK BC VL
  go_wp2_with fail
  go_loopg [10] m (fun g s wx=>∃ (i:Nat) (V:List Int),i<=m/\m-i<=g/\s = .int .i64 i/\Hid (Hp.P6a S t fs a k i V)/\Hid (RNow w wx r { S with words:=V }))
  case atStart=>exact ⟨0,_,G9c _,by omega,rfl,AD0,N6⟩
  case round=>
   obtain ⟨i,V,hi',hg,rfl,AD,N⟩:=hrel;clear AD0 N6;have VL:=hZ (AD.out.len.trans EN.out)
   by_cases hlt:i < m
   . obtain ⟨x,hx⟩:=A4a (l:=fs) (j:=i) (by rw [EM.out];exact hlt);have SQ:=hZ (HQ.out.but N.out.but HFAR.out);obtain ⟨qb,qo,hqp,hqb,hqc⟩:=SQ.out.cells (by rw [EM.out];omega);have gx:=hqc i x hx;have xw:=SQ.out.wf x (u1b hx);have XG:=hZ (show fs.getD i 0=x by rw [q1b];unfold Hp.rd at hx;rw [hx];rfl);have XM:=hZ (u1b hx);have tk:decide ((i:Int) < (m:Int))=true:=dT;clear hqc hx;subst hqp;obtain ⟨p1,p2,p3,p4⟩:IntKind.i64.wrap (((a:Nat):Int)+4)=((a:Nat):Int)+4/\(0:Int)<=((a:Nat):Int)+4/\((a:Nat):Int)+4 < ((n:Nat):Int)/\(((a:Nat):Int)+4).toNat=a+4:=⟨E4c _ (by omega),by omega,by omega,by omega⟩
     obtain ⟨s1,s2,s3,s4⟩:IntKind.i64.wrap (((a:Nat):Int)+4+((i:Nat):Int))=((a:Nat):Int)+4+((i:Nat):Int)/\(0:Int)<=((a:Nat):Int)+4+((i:Nat):Int)/\((a:Nat):Int)+4+((i:Nat):Int) < ((n:Nat):Int)/\(((a:Nat):Int)+4+((i:Nat):Int)).toNat=a+4+i:=⟨E4c _ (by omega),by omega,by omega,by omega⟩
     have lx:a+4+i < V.length:=by rw [VL.out];omega
     have LX:=hZ lx;clear lx
     cases he:Hp.B1a t with
     | true=>
      have ST:=hZ (AD.out.j5b HW.out HN.out HU.out HFIT.out (i:=i) (by rw [EM.out];exact hlt) he);have t20:¬ t < 20:=by simp only [Hp.B1a,Hp.within,B8c,A1c] at he;omega
      clear he
      go_wp2_with fail
      refine wp_region_still_tail 13 (by kernel_rfl) (by kernel_rfl) ?_;change wpStill _ _ (World.drew wr) (fun a'=>wpList _ _ _ _ a' (World.drew wr)) _ _;have ED:Ext wr (World.drew wr):=Ext.drew (Ext.refl _);have NY:=hZ (N.out.ext ED);generalize World.drew wr=wy at NY ED ⊢;have f2:=NY.out.f2;have z1:=NY.out.toRW.lt;have z2:=NY.out.words.lt;have c2':=NY.out.len VL.out;have gx':=ED.q gx;have g1:=NY.out.word (j:=a+4+i) (x:=_) LX.out rfl;have fr:=NY.out.words.froz (a+4+i);simp only [v1b,E0c,v0b,D9c]
      repeat still_step
      refine wpStill_nil ?_;clear p1 p2 p3 p4 s1 s2 s3 s4;have N1:=hZ (NY.out.set (j:=a+4+i) (v:=x) LX.out xw.1 xw.2);go_upto_region 14 with (fail)
      refine RNow.cut N1.out ?_;intro w7 N7';have N7:=hZ N7';clear N7' N1 NY c2' gx' g1 fr z1 z2 f2 ED;have ST2:Hid (Hp.P6a S t fs a k (i+1) (V.set (a+4+i) x)):=hZ (by have:=ST.out.2;rw [XG.out] at this;exact this)
      have RI:=hZ (by
       have:=c7a N7.out.toRW.at_ (a:=a) (by show a < (V.set (a+4+i) x).length;simp;rw [VL.out];omega);rw [show Hp.ow ({ S with words:=V.set (a+4+i) x }:Hp.Hs).words a=t from ST2.out.tag,D7c (show ¬ t < 20 by omega)] at this;exact this)
      go_wp2_with (go_at_call 87;refine m4_ (RI.out) fun w1 hb1 hc1 hf1 hs1=>?_)
      go_roundg (m-(i+1))
      case measure=>omega
      case rel=>exact ⟨i+1,_,by omega,H0c _,by go_num,ST2,hZ (N7.out.ext hb1)⟩
     | false=>
      obtain ⟨b,hb,hxb,_⟩:=HN.out.kids he x XM.out;have ST:=hZ (AD.out.Z8b HW.out HN.out HU.out HFIT.out (i:=i) (by rw [EM.out];exact hlt) he hb (XG.out.trans hxb));have t20:t < 20:=by
       have:=Hp.Q2a HN.out.tag he;simp only [Hp.isNode,Hp.within,B8c,A1c] at this;have:=HW.out.fr.few;omega
      have ub:=HW.out.h7a hb;have uv:=AD.out.uses b hb;have uc:((Hp.ksOf t fs).take i).count (b:Int)<=12:=by
       refine G5c u0b ?_;rw [A3c];omega
      have vb:0<=Hp.ow V (b+1)/\Hp.ow V (b+1)<=200000:=by omega
      have bn:b+1 < n:=by have:=ST.out.2.1;rw [VL.out] at this;exact this
      have tg:=AD.out.tag;have TG:=hZ tg;subst hxb;clear he hb ub uv uc tg
      go_wp2_with fail
      refine wp_region_still_tail 13 (by kernel_rfl) (by kernel_rfl) ?_;change wpStill _ _ (World.drew wr) (fun a'=>wpList _ _ _ _ a' (World.drew wr)) _ _;have ED:Ext wr (World.drew wr):=Ext.drew (Ext.refl _);have NY:=hZ (N.out.ext ED);generalize World.drew wr=wy at NY ED ⊢;have f2:=NY.out.f2;have z1:=NY.out.toRW.lt;have z2:=NY.out.words.lt;have c2':=NY.out.len VL.out;have gx':=ED.q gx;have g1:=NY.out.word (j:=a+4+i) (x:=_) LX.out rfl;have fr:=NY.out.words.froz (a+4+i);simp only [v1b,E0c,v0b,D9c]
      repeat still_step
      refine wpStill_nil ?_;clear p1 p2 p3 p4 s1 s2 s3 s4;have N1:=hZ (NY.out.set (j:=a+4+i) (v:=(b:Int)) LX.out xw.1 xw.2);go_upto_region 14 with (fail)
      refine RNow.cut N1.out ?_;intro w7 N7';have N7:=hZ N7';clear N7' N1 NY c2' gx' g1 fr z1 z2 f2 ED gx
      have RI:=hZ (by
       have:=c7a N7.out.toRW.at_ (a:=a) (by show a < (V.set (a+4+i) (b:Int)).length;simp;rw [VL.out];omega);rw [show Hp.ow ({ S with words:=V.set (a+4+i) (b:Int) }:Hp.Hs).words a=t from (Hp.A1a LX.out (by omega)).trans TG.out,E5c (show t < 20 by omega)] at this;exact this)
      obtain ⟨qb',qo',hqp',hqb',hqc'⟩:=(HQ.out.but N7.out.but HFAR.out).cells (by rw [EM.out];omega)
      cases hqp'
      have gx:=hqc' i (b:Int) (by have:=XM.out;have e:=XG.out;rw [q1b] at e;unfold Hp.rd;have hl:i < fs.length:=(by rw [EM.out];exact hlt);rw [r1b hl] at e ⊢;simpa using e)
      clear hqc';go_upto_region 15 with (go_at_call 87;refine m4_ (RI.out) fun w1 hb1 hc1 hf1 hs1=>?_)
      have N8:=hZ (N7.out.ext hb1);have gx2:=hb1.q gx;have zq:=x4b hqb' hb1.le;obtain ⟨p1,p2,p3,p4⟩:IntKind.i64.wrap (((b:Nat):Int)+1)=((b:Nat):Int)+1/\(0:Int)<=((b:Nat):Int)+1/\((b:Nat):Int)+1 < ((n:Nat):Int)/\(((b:Nat):Int)+1).toNat=b+1:=⟨E4c _ (by omega),by omega,by omega,by omega⟩
      have wv:IntKind.i64.wrap (Hp.ow V (b+1)+1)=Hp.ow V (b+1)+1:=E4c _ (by omega);have VB:=hZ vb;have VL2:=hZ (show (V.set (a+4+i) (b:Int)).length=n by simp;exact VL.out);clear gx hc1 hf1 hs1 vb;refine wp_region_still_tail 13 (by kernel_rfl) (by kernel_rfl) ?_;change wpStill _ _ (World.drew w1) (fun a'=>wpList _ _ _ _ a' (World.drew w1)) _ _;have ED:Ext w1 (World.drew w1):=Ext.drew (Ext.refl _);have NZ:=hZ (N8.out.ext ED);generalize World.drew w1=wz at NZ ED ⊢;have f2:=NZ.out.f2;have z1:=NZ.out.toRW.lt;have z2:=NZ.out.words.lt;have c2':=NZ.out.len VL2.out;have gx':=ED.q gx2;have g1:=NZ.out.word (j:=b+1) (by rw [VL2.out];omega) ST.out.2.2.1;have fr:=NZ.out.words.froz (b+1);simp only [v1b,E0c,v0b,D9c]
      repeat still_step
      refine wpStill_nil ?_;clear p1 p2 p3 p4;have N9:=hZ (NZ.out.set (j:=b+1) (v:=Hp.ow V (b+1)+1) (by show b+1 < (V.set (a+4+i) (b:Int)).length;rw [VL2.out];omega) (by have:=VB.out;omega) (by have:=VB.out;omega))
      go_wp2_with fail
      go_roundg (m-(i+1))
      case measure=>omega
      case rel=>exact ⟨i+1,_,by omega,H0c _,by go_num,hZ ST.out.2.2.2,N9⟩
   have:i=m:=by omega
   subst this;have tk:decide ((i:Int) < (i:Int))=false:=dF;have LK:=hZ (n9b (S:=S') (W:=V) (N.out.toRW.to HPUT.out.sizes HPUT.out.order rfl) HW'.out (HNEAR.out V (by rw [EM.out];exact AD.out)))
   go_wp2_with (go_at_call 152;refine LK.out.mono ?_;rintro e w7 ⟨rfl,hN7⟩)
   go_returns;exact ⟨rfl,N.out.trans hN7⟩
theorem V4b (x:Int):(Q3a S).contains x=S.has x:=by
 rw [D5c]
 simp only [t3b]
 rw [K6b]
 unfold Hp.Hs.has
 simp only [B8c,A1c,t3b]
 constructor
 . rintro ⟨a,ha,rfl⟩;exact ⟨by omega,by simpa using ha⟩
 rintro ⟨h1,h2⟩
 exact ⟨x.toNat,h2,by omega⟩
theorem h0a {ch:Nat->List Nat} (h:RAt w r S) (hw:Hp.Wf S B L ch) {b:Bool} (hb:S.has x=b):Calls prog 26 #[.pointer (some ⟨r.rb,0,none⟩),.int .i64 x] w (Rt w (.bool b)):=by
 have:=rIs h hw x
 rw [V4b,hb] at this
 exact this
theorem rHold {ch:Nat->List Nat} (h:RW w r S) (hw:Hp.Wf S B L ch) {e0:Int} (hr:S.hold x=some (e0,S')) :
    Calls prog 148 #[.pointer (some ⟨r.rb,0,none⟩),.int .i64 x] w (C9a r w (.int .i64 e0) S'):=by
  have H:=hZ (RNow.refl h);unfold Hp.Hs.hold at hr
  cases hb:S.has x with
  | false=>
   rw [H5c hb] at hr;simp only [z7b,F1c] at hr;obtain ⟨rfl,rfl⟩:=hr;have IS:=hZ (h0a h.at_ hw hb);clear h hw hb;go_enter func148,ntmps148
   go_wp2_with (go_at_call 26;refine m4_ (IS.out) fun w1 hb1 hc1 hf1 hs1=>?_)
   go_returns;exact (H.out.ext hb1).done
  | true=>
   obtain ⟨a,rfl,ha⟩:=Hp.U1a hb;have pa:=hw.part ha;have IS:=hZ (h0a h.at_ hw hb);rw [H4c (by rw [hb];simp)] at hr;have hv:=hw.holds a ha;have hbd:=hw.bd;have hhi:=hw.hi;simp only [v9b,s0b,C9c,z7b,F1c,z5b] at hr;obtain ⟨v,hv',W,hW,rfl,rfl⟩:=hr;rw [Hp.g5a (by omega) (by omega) (by omega)] at hv'
   cases hv'
   have hl:a+2 < S.words.length:=by omega
   unfold Hp.wr at hW;rw [H5c hl] at hW
   cases hW
   have hle:=h.le;have hcap:=h.cap;have HL:=hZ hl;have EV:=hZ hv;clear h hw hb ha pa;obtain ⟨p1,p2,p3,p4⟩:IntKind.i64.wrap (((a:Nat):Int)+2)=((a:Nat):Int)+2/\(0:Int)<=((a:Nat):Int)+2/\((a:Nat):Int)+2 < ((S.words.length:Nat):Int)/\(((a:Nat):Int)+2).toNat=a+2:=⟨E4c _ (by omega),by omega,by omega,by omega⟩
   have wv:IntKind.i64.wrap (Hp.ow S.words (a+2)+1)=Hp.ow S.words (a+2)+1:=E4c _ (by omega);go_enter func148,ntmps148;go_upto_region 3 with (go_at_call 26;refine m4_ (IS.out) fun w1 hb1 hc1 hf1 hs1=>?_)
   have NY:=hZ (H.out.ext hb1);have c2':=NY.out.c2;have z1:=NY.out.toRW.lt;have z2:=NY.out.words.lt;have g1:=NY.out.toRW.get HL.out;have fr:=NY.out.words.froz (a+2);have N2:=hZ (NY.out.set (j:=a+2) (v:=Hp.ow S.words (a+2)+1) HL.out (by have:=EV.out;omega) (by have:=EV.out;omega))
   go_wp2_with fail
   go_returns;exact N2.out.done
theorem rDrop {ch:Nat->List Nat} (h:RW w r S) (hw:Hp.Wf S B L ch) {e0:Int} (hr:S.drop x=some (e0,S')) :
    Calls prog 149 #[.pointer (some ⟨r.rb,0,none⟩),.int .i64 x] w (C9a r w (.int .i64 e0) S'):=by
  have H:=hZ (RNow.refl h);unfold Hp.Hs.drop at hr
  cases hb:S.has x with
  | false=>
   rw [H5c hb] at hr;simp only [z7b,F1c] at hr;obtain ⟨rfl,rfl⟩:=hr;have IS:=hZ (h0a h.at_ hw hb);clear h hw hb;go_enter func149,ntmps149
   go_wp2_with (go_at_call 26;refine m4_ (IS.out) fun w1 hb1 hc1 hf1 hs1=>?_)
   go_returns;exact (H.out.ext hb1).done
  | true=>
   obtain ⟨a,rfl,ha⟩:=Hp.U1a hb;have pa:=hw.part ha;have IS:=hZ (h0a h.at_ hw hb);rw [H4c (by rw [hb];simp)] at hr;have hv:=hw.holds a ha;have hbd:=hw.bd;have hhi:=hw.hi;simp only [v9b,s0b,C9c,z5b] at hr;obtain ⟨v,hv',hr⟩:=hr;rw [Hp.g5a (by omega) (by omega) (by omega)] at hv'
   cases hv'
   have hl:a+2 < S.words.length:=by omega
   have hle:=h.le;have hcap:=h.cap;have HL:=hZ hl;have EV:=hZ hv;obtain ⟨p1,p2,p3,p4⟩:IntKind.i64.wrap (((a:Nat):Int)+2)=((a:Nat):Int)+2/\(0:Int)<=((a:Nat):Int)+2/\((a:Nat):Int)+2 < ((S.words.length:Nat):Int)/\(((a:Nat):Int)+2).toNat=a+2:=⟨E4c _ (by omega),by omega,by omega,by omega⟩
   by_cases h0:Hp.ow S.words (a+2)=0
   . rw [H5c h0] at hr;simp only [z7b,F1c] at hr;obtain ⟨rfl,rfl⟩:=hr;have t0:(Hp.ow S.words (a+2) == 0)=true:=by simpa using h0
     clear h hw hb ha pa h0;go_enter func149,ntmps149
     go_wp2_with (go_at_call 26;refine m4_ (IS.out) fun w1 hb1 hc1 hf1 hs1=>?_;have N1:=hZ (H.out.ext hb1);have c2':=N1.out.c2;have g1:=N1.out.toRW.get HL.out;have z1:=N1.out.toRW.lt)
     go_returns;exact N1.out.done
   rw [H4c h0] at hr;simp only [s0b,z7b,F1c] at hr;obtain ⟨W,hW,rfl,rfl⟩:=hr;unfold Hp.wr at hW;rw [H5c hl] at hW
   cases hW
   have t0:(Hp.ow S.words (a+2) == 0)=false:=by simpa using h0
   have wv:IntKind.i64.wrap (Hp.ow S.words (a+2)-1)=Hp.ow S.words (a+2)-1:=E4c _ (by omega);clear h hw hb ha pa h0;go_enter func149,ntmps149;go_upto_region 5 with (go_at_call 26;refine m4_ (IS.out) fun w1 hb1 hc1 hf1 hs1=>?_;have N1:=hZ (H.out.ext hb1);have c2':=N1.out.c2;have g1:=N1.out.toRW.get HL.out;have z1:=N1.out.toRW.lt)
   have z2:=N1.out.words.lt;have fr:=N1.out.words.froz (a+2);have N2:=hZ (N1.out.set (j:=a+2) (v:=Hp.ow S.words (a+2)-1) HL.out (by have:=EV.out;omega) (by have:=EV.out;omega))
   go_wp2_with fail
   go_returns;exact N2.out.done
theorem D2b {f n:Int} (h3:0<=f) (h:(f=0/\Hp.within (-9999) 9999 n=false) \/ (f ≠ 0/\(¬ f<=4 \/ n ≠ 0))) :
    Calls prog 134 #[.agg #[.int .u8 f,.int .i64 n]] w (Rt w (.bool false)):=by
  rcases h with ⟨h0,e⟩ | ⟨h0,h4 | h4⟩
  . subst h0;have IN:=hZ (fun W=>e ▸ dIn n (-9999) 9999 W);clear e;go_enter func134,ntmps134
    go_wp2_with (go_at_call 66;refine m4_ (IN.out _) fun w1 hb1 hc1 hf1 hs1=>?_;obtain ⟨hz1_0,hc1_0,hf1_0⟩:=c3_ hb1 w.heap.size)
    go_returns;exact ⟨rfl,exx⟩
  . have t0:(f == 0)=false:=by simpa using h0
    have t1:decide (f<=4)=false:=D7c h4;go_enter func134,ntmps134
    go_wp2_with fail
    go_returns;exact ⟨rfl,exx⟩
  have t0:(f == 0)=false:=by simpa using h0
  have t2:(n == 0)=false:=by simpa using h4
  by_cases h5:f<=4
  . have t1:decide (f<=4)=true:=E5c h5;clear h0 h4;go_enter func134,ntmps134
    go_wp2_with fail
    go_returns;exact ⟨rfl,exx⟩
  have t1:decide (f<=4)=false:=D7c h5;clear h0 h4;go_enter func134,ntmps134
  go_wp2_with fail
  go_returns;exact ⟨rfl,exx⟩
theorem Hp.C9b {ch:Nat->List Nat} (h:Hp.Wf S B L ch) (c:Int) (l:List Int):∃ e,S.D0a c l=some e/\((Hp.within 0 ((S.sizes.length:Int)-1) c=false/\e=3) \/
    ∃ i:Nat,c=i/\i < S.sizes.length/\(((l.length:Int) ≠ Hp.ow S.sizes i/\e=4) \/ ((l.length:Int)=Hp.ow S.sizes i/\((l.all S.has=false/\e=7) \/ (l.all S.has=true /\ ∃ b,(b=true ↔ ∀ x ∈ l,∃ k ∈ S.taken,x=(k:Int)/\Hp.rank S.order (c+1) < Hp.rank S.order (Hp.ow S.words k))/\e=if b then 0 else 2))))):=by
  unfold Hp.Hs.D0a
  cases hw:Hp.within 0 ((S.sizes.length:Int)-1) c with
  | false=>exact ⟨3,by simp,.inl ⟨rfl,rfl⟩⟩
  | true=>
   simp only [Hp.within,B8c,A1c] at hw;obtain ⟨i,rfl⟩:∃ i:Nat,c=i:=⟨c.toNat,by omega⟩
   have hc:i < S.sizes.length:=by omega
   simp only [x7b,H1c,z5b];rw [Hp.F7a hc];simp only [v9b,B5c]
   by_cases h1:(l.length:Int) ≠ Hp.ow S.sizes i
   . exact ⟨4,by rw [H5c h1],.inr ⟨i,rfl,hc,.inl ⟨h1,rfl⟩⟩⟩
   rw [H4c h1];have h1':(l.length:Int)=Hp.ow S.sizes i:=z9b.1 h1
   cases hh:l.all S.has with
   | false=>exact ⟨7,by simp,.inr ⟨i,rfl,hc,.inr ⟨h1',.inl ⟨rfl,rfl⟩⟩⟩⟩
   | true=>
    simp only [x7b,H1c];rw [A7c] at hh;obtain ⟨b,e1,e2⟩:=Hp.T7a h (i:Int) l hh;rw [e1];simp only [B5c];refine ⟨if b then 0 else 2,by cases b <;> simp,.inr ⟨i,rfl,hc,.inr ⟨h1',.inr ⟨by simp,b,e2,rfl⟩⟩⟩⟩
theorem W5a {ch:Nat->List Nat} (h:RAt w r S) (hw:Hp.Wf S B L ch) {c e0:Int} (hq:SliceAt w q qc l) (hc1 : -9223372036854775808<=c) (hc2:c<=9223372036854775807) (hr:S.D0a c l=some e0) :
    Calls prog 135 #[.pointer (some ⟨r.rb,0,none⟩),.int .i64 c,.slice q l.length qc] w (Rt w (.int .i64 e0)):=by
  obtain ⟨e',he',hs⟩:=Hp.C9b hw c l;rw [hr] at he'
  cases he'
  have c0:=h.c0;have hlt:=h.lt;have few:=hw.fr.few;have qle:=hq.le;have qcap:=hq.cap;have sle:=h.sizes.le;have scap:=h.sizes.cap;have IN0:=hZ (fun W=>dIn c 0 ((S.sizes.length:Int)-1) W)
  rcases hs with ⟨hwi,rfl⟩ | ⟨i,rfl,hi,hs⟩
  . rw [hwi] at IN0;clear h hw hq hr hwi;generalize S.sizes.length=n at *;have sn:IntKind.i64.wrap ((n:Int)-1)=(n:Int)-1:=E4c _ (by omega);go_enter func135,ntmps135
    go_wp2_with (go_at_call 66;refine m4_ (IN0.out _) fun w1 hb1 hc1 hf1 hs1=>?_)
    go_returns;exact ⟨rfl,exx⟩
  have hi3:=Hp.F7a hi;obtain ⟨sb,so,hsp,hsb,hsc⟩:=h.sizes.cells (by omega);have gs:=hsc i _ hi3;rw [hsp] at c0;rw [show Hp.within 0 ((S.sizes.length:Int)-1) (i:Int)=true by simp [Hp.within];omega] at IN0;obtain ⟨m,hm⟩:∃ m,l.length=m:=⟨_,rfl⟩
  have EM:=hZ hm;rw [hm] at hs qle ⊢;have hb:=hw.fr.pos _ (u1b hi3)
  rcases hs with ⟨hne,rfl⟩ | ⟨heq,hs⟩
  . have t0:((m:Int) != Hp.ow S.sizes i)=true:=by simpa using hne
    clear h hw hq hr hsc hi3 hne hm;generalize S.sizes.length=n at *;generalize Hp.ow S.sizes i=x at *;have sn:IntKind.i64.wrap ((n:Int)-1)=(n:Int)-1:=E4c _ (by omega);go_enter func135,ntmps135
    go_wp2_with (go_at_call 66;refine m4_ (IN0.out _) fun w1 hb1 hc1 hf1 hs1=>?_;have c0':=hb1.q c0;have gs':=hb1.q gs)
    go_returns;exact ⟨rfl,exx⟩
  have t0:((m:Int) != Hp.ow S.sizes i)=false:=by simpa using heq
  have IS:=hZ (fun x (b:Bool) (hb:S.has x=b) W (hW:Ext w W)=>h0a (h.ext hW) hw hb);have RK:=hZ (fun b (hb:b ∈ S.taken) W (hW:Ext w W)=>rRank (h.ext hW) hw hb);have hmo:(i:Int) ∈ S.order:=hw.fr.perm i hi;obtain ⟨k,k1,k2,k3⟩:=index_spec hmo;have PL:=hZ (fun W (hW:Ext w W)=>g4b (h.ext hW) k2 k3);have hrk:Hp.rank S.order ((i:Int)+1)=(k:Int):=by
   rw [z4a (z:=S.sizes) (by simp [Hp.B1a,Hp.within];omega),show (i:Int)+1-1=(i:Int) by omega,k1]
  rw [hrk] at hs;have hkb:k<=100:=by
   have:=G0a k2;have:=hw.fr.len;omega
  have hrl:∀ b,b ∈ S.taken->Hp.rank S.order (Hp.ow S.words b)<=100 /\ -1<=Hp.rank S.order (Hp.ow S.words b):=fun b hb=>by
   unfold Hp.rank
   split
   . have:=hw.fr.len;omega
   unfold Hp.index
   split
   . rename_i j hj;rw [p4b] at hj;have:=hj.1;have:=hw.fr.len;omega
   omega
  have HRL:=hZ hrl;have HQ:=hZ hq;have HS:=hZ hs;clear h hw hq hr hsc hi3 hm heq hs hmo k1 k2 k3 hrk hrl;generalize S.sizes.length=n at *;generalize Hp.ow S.sizes i=x at *;have sn:IntKind.i64.wrap ((n:Int)-1)=(n:Int)-1:=E4c _ (by omega);go_enter func135,ntmps135
  go_wp2_with (go_at_call 66;refine m4_ (IN0.out _) fun w1 hb1 hc1 hf1 hs1=>?_;have c0':=hb1.q c0;have gs':=hb1.q gs)
  have E1:=hZ hb1;clear hb1 hc1 hf1 hs1 c0' gs' t0 sn
  go_loopg [7] m (fun g s wr=>∃ j:Nat,j<=m/\m-j<=g/\s = .int .i64 j/\Hid (Ext w wr)/\Hid (∀ i y,i < j->Hp.rd l i=some y->S.has y=true))
  case atStart=>exact ⟨0,G9c _,by omega,rfl,E1,hZ (fun i _ hi=>absurd hi (D0c _))⟩
  case round=>
   obtain ⟨j,hj,hg,rfl,E,A⟩:=hrel
   by_cases hlt2:j < m
   . obtain ⟨y,hy⟩:=A4a (l:=l) (j:=j) (by rw [EM.out];exact hlt2);obtain ⟨qb,qo,hqp,hqb,hqc⟩:=(HQ.out.ext E.out).cells (by rw [EM.out];omega);have gq:=hqc j _ hy;have HY:=hZ hy;have tk:decide ((j:Int) < (m:Int))=true:=dT;clear hqc hy;subst hqp
     cases hh:S.has y with
     | true=>
      have A2:Hid (∀ i y,i < j+1->Hp.rd l i=some y->S.has y=true):=hZ (fun i z hi hz=>by
       by_cases e:i=j
       . subst e;rw [HY.out] at hz
         cases hz
         exact hh
       . exact A.out i z (by omega) hz)
      have ISY:=hZ (IS.out y true hh wr E.out);clear hh
      go_wp2_with (go_at_call 26;refine ISY.out.mono ?_;rintro e w2 ⟨rfl,hE2⟩)
      have E2:=hZ (E.out.trans hE2)
      go_roundg (m-(j+1))
      case measure=>omega
      case rel=>exact ⟨j+1,by omega,H0c _,by go_num,E2,A2⟩
     | false=>
      have hall:l.all S.has=false:=by
       cases ha:l.all S.has with
       | false=>rfl
       | true=>
        rw [A7c] at ha;have:=ha y (u1b HY.out);rw [hh] at this
        cases this
      have he7:e0=7:=by
       rcases HS.out with ⟨_,e⟩ | ⟨h1,_⟩
       . exact e
       rw [hall] at h1
       cases h1
      subst he7;have ISY:=hZ (IS.out y false hh wr E.out);clear hh hall
      go_wp2_with (go_at_call 26;refine ISY.out.mono ?_;rintro e w2 ⟨rfl,hE2⟩)
      go_returns;exact ⟨rfl,E.out.trans hE2⟩
   have tk:decide ((j:Int) < (m:Int))=false:=dF;have hall:∀ y ∈ l,S.has y=true:=fun y hy=>by
    obtain ⟨i,hi,e⟩:=u9b hy;have:=EM.out;exact A.out i y (by omega) (by unfold Hp.rd;rw [r1b hi,e])
   have HALL:=hZ hall;obtain ⟨b,hb,he0⟩:∃ b,(b=true ↔ ∀ x ∈ l,∃ q ∈ S.taken,x=(q:Int)/\(k:Int) < Hp.rank S.order (Hp.ow S.words q))/\e0=if b then 0 else 2:=by
    rcases HS.out with ⟨h1,_⟩ | ⟨_,h1⟩
    . rw [A7c.2 hall] at h1
      cases h1
    exact h1
   have HB:=hZ hb;have HE:=hZ he0;clear hall hb he0
   go_wp2_with fail
   clear tk hj hg hlt2 E1 A
   go_loopg [8] m (fun g s wr=>∃ j:Nat,j<=m/\m-j<=g/\s = .int .i64 j/\Hid (Ext w wr)/\Hid (∀ i y,i < j->Hp.rd l i=some y -> ∃ q ∈ S.taken,y=(q:Int)/\(k:Int) < Hp.rank S.order (Hp.ow S.words q)))
   case atStart=>exact ⟨0,G9c _,by omega,rfl,E,hZ (fun i _ hi=>absurd hi (D0c _))⟩
   case round=>
    obtain ⟨j,hj,hg,rfl,E,A⟩:=hrel
    by_cases hlt2:j < m
    . obtain ⟨y,hy⟩:=A4a (l:=l) (j:=j) (by rw [EM.out];exact hlt2);obtain ⟨qb,qo,hqp,hqb,hqc⟩:=(HQ.out.ext E.out).cells (by rw [EM.out];omega);have gq:=hqc j _ hy;obtain ⟨d,rfl,hd⟩:=Hp.U1a (HALL.out y (u1b hy));have HY:=hZ hy;have RKB:=hZ (fun W (hW:Ext w W)=>RK.out d hd W hW);have hb4:=HRL.out d hd;have HD:=hZ hd;have tk:decide ((j:Int) < (m:Int))=true:=dT;clear hqc hy hd;subst hqp
      by_cases hrk:(k:Int) < Hp.rank S.order (Hp.ow S.words d)
      . have A2:Hid (∀ i y,i < j+1->Hp.rd l i=some y -> ∃ q ∈ S.taken,y=(q:Int)/\(k:Int) < Hp.rank S.order (Hp.ow S.words q)):=hZ (fun i z hi hz=>by
          by_cases e:i=j
          . subst e;rw [HY.out] at hz
            cases hz
            exact ⟨d,HD.out,rfl,hrk⟩
          . exact A.out i z (by omega) hz)
        generalize Hp.rank S.order (Hp.ow S.words d)=rk at *;have t0:decide (rk<=(k:Int))=false:=dF;clear hrk
        go_wp2_with (first
         | (go_at_call 172;refine (RKB.out _ E.out).mono ?_;rintro e w2 ⟨rfl,hE2⟩)
         | (go_at_call 173;refine (PL.out _ (E.out.trans hE2)).mono ?_;rintro e w3 ⟨rfl,hE3⟩))
        have E2:=hZ (E.out.trans (hE2.trans hE3))
        go_roundg (m-(j+1))
        case measure=>omega
        case rel=>exact ⟨j+1,by omega,H0c _,by go_num,E2,A2⟩
      have hbf:b=false:=by
       cases b with
       | false=>rfl
       | true=>
        obtain ⟨d',_,e,h2⟩:=HB.out.1 rfl (d:Int) (u1b HY.out);have:d=d':=by omega
        subst this;exact absurd h2 hrk
      have he2:=HE.out;rw [hbf] at he2;simp only [x6b,H1c] at he2;subst he2;generalize Hp.rank S.order (Hp.ow S.words d)=rk at *;have t0:decide (rk<=(k:Int))=true:=dT;clear hrk
      go_wp2_with (first
       | (go_at_call 172;refine (RKB.out _ E.out).mono ?_;rintro e w2 ⟨rfl,hE2⟩)
       | (go_at_call 173;refine (PL.out _ (E.out.trans hE2)).mono ?_;rintro e w3 ⟨rfl,hE3⟩))
      go_returns;exact ⟨rfl,E.out.trans (hE2.trans hE3)⟩
    have tk:decide ((j:Int) < (m:Int))=false:=dF;have hbt:b=true:=HB.out.2 fun y hy=>by
     obtain ⟨i,hi,e⟩:=u9b hy;have:=EM.out;exact A.out i y (by omega) (by unfold Hp.rd;rw [r1b hi,e])
    have he2:=HE.out;rw [hbt] at he2;simp only [H2c] at he2;subst he2
    go_wp2_with fail
    go_returns;exact ⟨rfl,E.out⟩
theorem rAdd {ch:Nat->List Nat} (h:RW w r S) (hw:Hp.Wf S B L ch) (hn:Hp.New S t fs) (hq:SliceAt w q qc fs) (hfar:∀ b o,q=some ⟨b,o,none⟩->b ∉ r.own) (ha:S.add t fs=some (a,S')) :
    Calls prog 162 #[.pointer (some ⟨r.rb,0,none⟩),.int .i64 t,.slice q fs.length qc] w (C9a r w (.int .i64 a) S'):=by
  have hwd:=(hn.wide hw).1
  rcases Hp.add_wf hw hn with ⟨b,hb,e1,e2,e3⟩ | ⟨hmiss,⟨hno,e3⟩ | ⟨P,u,Q,S'',hL,hno,hf,hfit,e3,hput,hwf⟩⟩
  . rw [ha] at e3
    cases e3
    subst e1 e2;exact a4b h hw hb hq
  . rw [ha] at e3
    cases e3
    exact S4b h hw hn hq hmiss hno
  rw [ha] at e3
  cases e3
  obtain ⟨a,k,fr⟩:=u;simp only at hf;subst hf hL;rw [hwd] at hno hfit;exact f4b h hw hn hq hfar hmiss hno hfit hput hwf fun W A=>Hp.P6a.near hw hn hfit A hput hwf
theorem RW.D1a (h:RW w r S):∀ b ∈ r.own,b < w.heap.size:=by
 intro b hb
 simp [Rd.own] at hb
 rcases hb with rfl | rfl
 . exact h.lt
 exact h.words.lt
theorem rEnd {ch:Nat->List Nat} (h:RW w r S) (hw:Hp.Wf S B L ch) {n:Int} (hf:f < 256) (hn1 : -9223372036854775808<=n) (hn2:n<=9223372036854775807) {x:Int × Int × Hp.Hs} (hr:S.end' f n=some x) :
    Calls prog 112 #[.pointer (some ⟨r.rb,0,none⟩),.agg #[.int .u8 f,.int .i64 n]] w (C9a r w (.tuple #[.int .i64 x.1,.int .i64 x.2.1]) x.2.2):=by
  have H:=hZ (RNow.refl h);have HW:=hZ hw;unfold Hp.Hs.end' at hr
  by_cases hbad:(f:Int) > 4 \/ ((f:Int) > 0/\n ≠ 0) \/ Hp.within (-9999) 9999 n=false
  . rw [H5c hbad] at hr
    cases hr
    have hb2:((f:Int)=0/\Hp.within (-9999) 9999 n=false) \/ ((f:Int) ≠ 0/\(¬ (f:Int)<=4 \/ n ≠ 0)):=by
     rcases hbad with h1 | h1 | h1
     . exact .inr ⟨by omega,.inl (by omega)⟩
     . exact .inr ⟨by omega,.inr h1.2⟩
     by_cases h0:(f:Int)=0
     . exact .inl ⟨h0,h1⟩
     refine .inr ⟨h0,.inr fun e=>?_⟩;subst e;simp [Hp.within] at h1
    have IC:=hZ (fun W=>D2b (w:=W) (f:=(f:Int)) (n:=n) (by omega) hb2);clear h hw hbad hb2;go_enter func112,ntmps112
    go_wp2_with (go_at_call 134;refine m4_ (IC.out _) fun w1 hb1 hc1 hf1 hs1=>?_)
    go_ret2
    exact ⟨rfl,H.out.ext (exx)⟩
  rw [H4c hbad] at hr;simp only [not_or,not_and,z9b] at hbad;obtain ⟨h1,h2,h3⟩:=hbad;have h3:Hp.within (-9999) 9999 n=true:=by
   cases hq:Hp.within (-9999) 9999 n with
   | true=>rfl
   | false=>exact absurd hq h3
  simp only [Hp.within,B8c,A1c] at h3;simp only [v9b,s0b,C9c,z7b] at hr;obtain ⟨⟨a,S'⟩,ha,rfl⟩:=hr;rw [W9a];have IC:=hZ (fun W=>L5b (w:=W) (f:=(f:Int)) (n:=n) (fun _=>h3) (fun hne=>h2 (by omega)) (by omega) (by omega));have NW:=Hp.V8b (S:=S) (fault:=(f:Int)) (n:=n) (by omega) (by omega) (fun hp=>h2 hp) h3.1 h3.2;have key:∀ w2,Ext w w2->Calls prog 162 #[.pointer (some ⟨r.rb,0,none⟩),.int .i64 (20+f),.slice (some ⟨w2.heap.size,0,none⟩) 1 1] (w2.alloc (.cells #[.int .i64 n] 3)) (fun e w'=>e = .returned (.int .i64 a)/\RNow w w' r S'):=by
   intro w2 E;have E2:Ext w (w2.alloc (.cells #[.int .i64 n] 3)):=E.alloc _;refine (rAdd (H.out.ext E2).toRW HW.out NW (SliceAt.one w2 n hn1 hn2 3) (fun b o e=>?_) ha).mono ?_
   . cases e
     intro hm;have:=H.out.toRW.D1a _ hm;have:=E.le;omega
   rintro e w' ⟨rfl,h1⟩;exact ⟨rfl,(H.out.ext E2).trans h1⟩
  have KEY:=hZ key;have w20:wrap64 ((20:Int)+(f:Int))=(20:Int)+(f:Int):=z8b _ ⟨by omega,by omega⟩;clear h hw key ha NW h1 h2 h3
  by_cases ha0:a=0
  . subst ha0;go_enter func112,ntmps112
    go_wp2_with (first
     | (go_at_call 134;refine m4_ (IC.out _) fun w1 hb1 hc1 hf1 hs1=>?_;obtain ⟨hz1_0,hc1_0,hf1_0⟩:=c3_ hb1 w.heap.size)
     | (go_at_call 162;refine (KEY.out _ (exx)).mono ?_;rintro e w3 ⟨rfl,N3⟩))
    go_ret2
    exact ⟨rfl,N3⟩
  have t0:((a:Int) == 0)=false:=by simp;omega
  have e8:err8 a=0:=by simp [err8,ha0]
  rw [e8];clear ha0 e8;go_enter func112,ntmps112
  go_wp2_with (first
   | (go_at_call 134;refine m4_ (IC.out _) fun w1 hb1 hc1 hf1 hs1=>?_;obtain ⟨hz1_0,hc1_0,hf1_0⟩:=c3_ hb1 w.heap.size)
   | (go_at_call 162;refine (KEY.out _ (exx)).mono ?_;rintro e w3 ⟨rfl,N3⟩))
  go_ret2
  exact ⟨rfl,N3⟩
theorem Hp.R8b {ch:Nat->List Nat} (h:Hp.Wf S B L ch) {c:Int} (hr:S.D0a c l=some 0):1<=l.length/\l.length<=12/\0<=c/\c<=100/\(Hp.Hs.alike l=false->Hp.New S (c+1) l):=by
 obtain ⟨e,he,hz⟩:=Hp.N5a h c l
 rw [hr] at he
 cases he
 obtain ⟨h1,h2,h3⟩:=hz rfl
 have ok:Hp.okTag S.sizes (c+1)=true:=by simp [Hp.okTag,h1]
 have:=Hp.S6a h.fr.toFr ok
 have:=h.fr.few
 have h1':=h1
 simp only [Hp.isNode,Hp.within,B8c,A1c] at h1'
 exact ⟨by omega,by omega,by omega,by omega,fun h4=>Hp.q8a h h1 h2 h3 h4⟩
theorem rMake {ch:Nat->List Nat} (h:RW w r S) (hw:Hp.Wf S B L ch) {c:Int} (hq:SliceAt w q qc l) (hfar:∀ b o,q=some ⟨b,o,none⟩->b ∉ r.own) (hc1 : -9223372036854775808<=c) (hc2:c<=9223372036854775807) {x:Int × Int × Hp.Hs} (hr:S.make c l=some x) :
    Calls prog 114 #[.pointer (some ⟨r.rb,0,none⟩),.int .i64 c,.slice q l.length qc] w (C9a r w (.tuple #[.int .i64 x.1,.int .i64 x.2.1]) x.2.2):=by
  have H:=hZ (RNow.refl h);have HW:=hZ hw;have HQ:=hZ hq;have HFAR:=hZ hfar;unfold Hp.Hs.make at hr;simp only [v9b,s0b] at hr;obtain ⟨e0,he,hr⟩:=hr;have CN:=hZ (W5a h.at_ hw hq hc1 hc2 he)
  by_cases h0:e0=0
  case neg=>
   rw [H5c h0] at hr
   cases hr
   have t0:(e0 != 0)=true:=by simpa using h0
   clear h hw hq hfar he h0;go_enter func114,ntmps114
   go_wp2_with (go_at_call 135;refine m4_ (CN.out) fun w1 hb1 hc1 hf1 hs1=>?_)
   go_ret2
   exact ⟨rfl,H.out.ext hb1⟩
  case pos=>
   subst h0;rw [H4c (by simp)] at hr;obtain ⟨l1,l12,c0,c100,hnew⟩:=Hp.R8b hw he;obtain ⟨y,hy⟩:=A4a (l:=l) (j:=0) (by omega);obtain ⟨b,o,hp,hb,hcell⟩:=hq.cells (by omega);have g:=hcell 0 y hy;simp only [G0c] at g;have hle:=hq.le;have hcap:=hq.cap;subst hp;have FL:=hZ (fun (bb:Bool) (hbb:Hp.Hs.alike l=bb) W (hW:Ext w W)=>Z9b (v:=0) (HQ.out.ext hW) hbb)
   cases ha:Hp.Hs.alike l with
   | true=>
    rw [H5c ha] at hr;simp only [s0b] at hr;obtain ⟨y',hy',hr⟩:=hr
    cases hr
    have:y'=y:=by
     cases l with
     | nil=>cases hy
     | cons a r=>
      have e1:a=y':=by simpa using hy'
      have e2:a=y:=by simpa [Hp.rd] using hy
      rw [<- e1,e2]
    subst this;have FL2:=hZ (FL.out true ha);clear h hw hq hfar he hy hy' ha hcell hnew FL;have z:=hZ hb;generalize l.length=m at *;go_enter func114,ntmps114
    go_wp2_with (first
     | (go_at_call 135;refine m4_ (CN.out) fun w1 hb1 hc1 hf1 hs1=>?_)
     | (go_at_call 136;refine m4_ (FL2.out _ hb1) fun w2 hb2 hc2 hf2 hs2=>?_;have g2:=((hb1.trans hb2).cell z.out o).trans g))
    go_ret2
    exact ⟨rfl,(H.out.ext hb1).ext hb2⟩
   | false=>
    rw [H4c (by rw [ha];simp)] at hr;simp only [s0b,C9c,z7b] at hr;obtain ⟨⟨a,S'⟩,had,rfl⟩:=hr;rw [W9a];have FL2:=hZ (FL.out false ha);have NW:=hnew ha;have AD:Hid (∀ W,Ext w W->Calls prog 162 #[.pointer (some ⟨r.rb,0,none⟩),.int .i64 (1+c),.slice (some ⟨b,o,none⟩) l.length qc] W (fun e w'=>e = .returned (.int .i64 a)/\RNow w w' r S')):=hZ (fun W hW=>by
     rw [show (1:Int)+c=c+1 by omega];refine (rAdd (H.out.ext hW).toRW HW.out NW (HQ.out.ext hW) HFAR.out had).mono ?_;rintro e w' ⟨rfl,h1⟩;exact ⟨rfl,(H.out.ext hW).trans h1⟩)
    have w1':wrap64 ((1:Int)+c)=(1:Int)+c:=z8b _ ⟨by omega,by omega⟩;clear h hw hq hfar he hy ha hcell hnew NW FL g had;generalize l.length=m at *
    by_cases ha0:a=0
    . subst ha0;go_enter func114,ntmps114
      go_wp2_with (first
       | (go_at_call 135;refine m4_ (CN.out) fun w1 hb1 hc1 hf1 hs1=>?_)
       | (go_at_call 136;refine m4_ (FL2.out _ hb1) fun w2 hb2 hc2 hf2 hs2=>?_)
       | (go_at_call 162;refine (AD.out _ (hb1.trans hb2)).mono ?_;rintro e w3 ⟨rfl,N3⟩))
      go_ret2
      exact ⟨rfl,N3⟩
    have t0:((a:Int) == 0)=false:=by simp;omega
    have e8:err8 a=0:=by simp [err8,ha0]
    rw [e8];clear ha0 e8;go_enter func114,ntmps114
    go_wp2_with (first
     | (go_at_call 135;refine m4_ (CN.out) fun w1 hb1 hc1 hf1 hs1=>?_)
     | (go_at_call 136;refine m4_ (FL2.out _ hb1) fun w2 hb2 hc2 hf2 hs2=>?_)
     | (go_at_call 162;refine (AD.out _ (hb1.trans hb2)).mono ?_;rintro e w3 ⟨rfl,N3⟩))
    go_ret2
    exact ⟨rfl,N3⟩
theorem rFind {ch:Nat->List Nat} (h:RAt w r S) (hw:Hp.Wf S B L ch) {c:Int} (hq:SliceAt w q qc l) (hc1 : -9223372036854775808<=c) (hc2:c<=9223372036854775807) {x:Int × Int} (hr:S.find c l=some x) :
    Calls prog 147 #[.pointer (some ⟨r.rb,0,none⟩),.int .i64 c,.slice q l.length qc] w (Rt w (.tuple #[.int .i64 x.1,.int .i64 x.2])):=by
  have HQ:=hZ hq;unfold Hp.Hs.find at hr;simp only [v9b,s0b] at hr;obtain ⟨e0,he,hr⟩:=hr;have CN:=hZ (W5a h hw hq hc1 hc2 he)
  by_cases h0:e0=0
  case neg=>
   rw [H5c h0] at hr
   cases hr
   have t0:(e0 != 0)=true:=by simpa using h0
   clear h hw hq he h0;go_enter func147,ntmps147
   go_wp2_with (go_at_call 135;refine m4_ (CN.out) fun w1 hb1 hc1 hf1 hs1=>?_)
   go_ret2
   exact ⟨rfl,hb1⟩
  case pos=>
   subst h0;rw [H4c (by simp)] at hr;obtain ⟨l1,l12,c0,c100,hnew⟩:=Hp.R8b hw he;obtain ⟨y,hy⟩:=A4a (l:=l) (j:=0) (by omega);obtain ⟨b,o,hp,hb,hcell⟩:=hq.cells (by omega);have g:=hcell 0 y hy;simp only [G0c] at g;have hle:=hq.le;have hcap:=hq.cap;subst hp;have FL:=hZ (fun (bb:Bool) (hbb:Hp.Hs.alike l=bb) W (hW:Ext w W)=>Z9b (v:=0) (HQ.out.ext hW) hbb)
   cases ha:Hp.Hs.alike l with
   | true=>
    rw [H5c ha] at hr;simp only [s0b] at hr;obtain ⟨y',hy',hr⟩:=hr
    cases hr
    have:y'=y:=by
     cases l with
     | nil=>cases hy
     | cons a r=>
      have e1:a=y':=by simpa using hy'
      have e2:a=y:=by simpa [Hp.rd] using hy
      rw [<- e1,e2]
    subst this;have FL2:=hZ (FL.out true ha);clear h hw hq he hy hy' ha hcell hnew FL;have z:=hZ hb;generalize l.length=m at *;go_enter func147,ntmps147
    go_wp2_with (first
     | (go_at_call 135;refine m4_ (CN.out) fun w1 hb1 hc1 hf1 hs1=>?_)
     | (go_at_call 136;refine m4_ (FL2.out _ hb1) fun w2 hb2 hc2 hf2 hs2=>?_;have g2:=((hb1.trans hb2).cell z.out o).trans g))
    go_ret2
    exact ⟨rfl,hb1.trans hb2⟩
   | false=>
    rw [H4c (by rw [ha];simp)] at hr;simp only [s0b] at hr;obtain ⟨a,hlk,hr⟩:=hr;have FL2:=hZ (FL.out false ha);have NW:=hnew ha;have SM:Hid (∀ W,Ext w W->Calls prog 133 #[.pointer (some ⟨r.rb,0,none⟩),.int .i64 (1+c),.slice (some ⟨b,o,none⟩) l.length qc] W (fun e w'=>e = .returned (.int .i64 a)/\Ext W w')):=hZ (fun W hW=>by
     rw [show (1:Int)+c=c+1 by omega];have hck:=Hp.b0b hw NW
     rcases Hp.j1a hw hck (Hp.P0a _ _) with ⟨a',ha',e1,e2,e3⟩ | ⟨hmiss,e3⟩
     . rw [hlk] at e3
       cases e3
       have:=rSame (h.ext hW) hw ha' (e2.symm ▸ HQ.out.ext hW);rw [e1,e2] at this;exact this
     . rw [hlk] at e3
       cases e3
       exact r4a (h.ext hW) hw (HQ.out.ext hW) hmiss)
    have w1':wrap64 ((1:Int)+c)=(1:Int)+c:=z8b _ ⟨by omega,by omega⟩;clear h hw hq he hy ha hcell hnew NW FL g hlk;generalize l.length=m at *
    by_cases ha0:a=0
    . subst ha0;rw [H5c rfl] at hr
      cases hr
      go_enter func147,ntmps147
      go_wp2_with (first
       | (go_at_call 135;refine m4_ (CN.out) fun w1 hb1 hc1 hf1 hs1=>?_)
       | (go_at_call 136;refine m4_ (FL2.out _ hb1) fun w2 hb2 hc2 hf2 hs2=>?_)
       | (go_at_call 133;refine m4_ (SM.out _ (hb1.trans hb2)) fun w3 hb3 hc3 hf3 hs3=>?_))
      go_ret2
      exact ⟨rfl,(hb1.trans hb2).trans hb3⟩
    rw [H4c ha0] at hr
    cases hr
    have t0:((a:Int) == 0)=false:=by simp;omega
    clear ha0;go_enter func147,ntmps147
    go_wp2_with (first
     | (go_at_call 135;refine m4_ (CN.out) fun w1 hb1 hc1 hf1 hs1=>?_)
     | (go_at_call 136;refine m4_ (FL2.out _ hb1) fun w2 hb2 hc2 hf2 hs2=>?_)
     | (go_at_call 133;refine m4_ (SM.out _ (hb1.trans hb2)) fun w3 hb3 hc3 hf3 hs3=>?_))
    go_ret2
    exact ⟨rfl,(hb1.trans hb2).trans hb3⟩
theorem rKid {ch:Nat->List Nat} (h:RAt w r S) (hw:Hp.Wf S B L ch) (hY:∀ y ∈ Y,y ∈ S.taken) (hp:SliceAt w p c (Hp.K9a Y)) {b:Bool} (hb:b=true ↔ Hp.k0b S Y a) :
    Calls prog 140 #[.pointer (some ⟨r.rb,0,none⟩),.slice p Y.length c,.int .i64 a] w (Rt w (.bool b)):=by
  have FLD:=hZ (fun b (hb:b ∈ S.taken) W (hW:Ext w W)=>G0b (h.ext hW) hw hb);have FAT:=hZ (fun b (hb:b ∈ S.taken) W (hW:Ext w W)=>fieldAt (h.ext hW) hw hb);have H:=hZ h;have HW:=hZ hw;have HY:=hZ hY;have HP:=hZ hp;have HB:=hZ hb;have hle:=hp.le;have hcap:=hp.cap;rw [Hp.C1a] at hle;obtain ⟨m,hm⟩:∃ m,Y.length=m:=⟨_,rfl⟩
  have EM:=hZ hm;rw [hm] at hle ⊢;clear h hw hY hp hb hm;go_enter func140,ntmps140
  go_wp2_with fail
  go_loopg [7] m (fun g i wr=>∃ j:Nat,j<=m/\m-j<=g/\i = .int .i64 j/\Hid (Ext w wr)/\Hid (∀ i y,i < j->Y[i]? = some y->(a:Int) ∉ Hp.kz (Hp.ow S.words) S.sizes y))
  case atStart=>exact ⟨0,G9c _,by omega,rfl,hZ (Ext.refl w),hZ (fun i _ hi=>absurd hi (D0c _))⟩
  case round=>
   obtain ⟨j,hj,hg,rfl,E,A⟩:=hrel
   by_cases hlt:j < m
   . obtain ⟨y,hy⟩:∃ y,Y[j]? = some y:=⟨_,r1b (by rw [EM.out];exact hlt)⟩
     have hyt:=HY.out y (u1b hy);have pb:=HW.out.part hyt;obtain ⟨lb,lo,hlp,hlbb,hlc⟩:=(HP.out.ext E.out).cells (by rw [Hp.C1a,EM.out];omega);have gl:=hlc j _ (Hp.p6a hy);have tk:decide ((j:Int) < (m:Int))=true:=dT;have HYJ:=hZ hy;have RI:=hZ (c7a (H.out.ext E.out) (a:=y) (by omega));subst hlp
     cases he:Hp.B1a (Hp.ow S.words y) with
     | true=>
      have hne:¬ Hp.ow S.words y < 20:=by
       simp only [Hp.B1a,Hp.within,B8c,A1c] at he;omega
      rw [D7c hne] at RI;have A2:Hid (∀ i z,i < j+1->Y[i]? = some z->(a:Int) ∉ Hp.kz (Hp.ow S.words) S.sizes z):=hZ (fun i z hi hz=>by
       by_cases e:i=j
       . subst e;rw [HYJ.out] at hz
         cases hz
         simp [Hp.kz,he]
       . exact A.out i z (by omega) hz)
      clear hlc hy hyt pb he hne
      go_wp2_with (go_at_call 87;refine m4_ (RI.out) fun w1 hb1 hc1 hf1 hs1=>?_)
      have E2:=hZ (E.out.trans hb1)
      go_roundg (m-(j+1))
      case measure=>omega
      case rel=>exact ⟨j+1,by omega,H0c _,by go_num,E2,A2⟩
     | false=>
      have hnd:=Hp.Q2a (HW.out.cells.tags y hyt) he;have hlt20:Hp.ow S.words y < 20:=by
       simp only [Hp.isNode,Hp.within,B8c,A1c] at hnd;have:=HW.out.fr.few;omega
      rw [E5c hlt20] at RI;have ekz:Hp.kz (Hp.ow S.words) S.sizes y=Hp.fz (Hp.ow S.words) S.sizes y:=by simp [Hp.kz,he]
      have FL:=hZ (fun W (hW:Ext w W)=>FLD.out y hyt W hW);have FA:=hZ (fun W (hW:Ext w W)=>FAT.out y hyt W hW);obtain ⟨bb,hbb⟩:∃ bb,(Hp.fz (Hp.ow S.words) S.sizes y).contains (a:Int)=bb:=⟨_,rfl⟩
      have HC:=hZ (fun W (hW:Ext w W)=>b3a hbb (FA.out W hW));have EK:=hZ ekz;have HBB:=hZ hbb;generalize (Hp.fz (Hp.ow S.words) S.sizes y).length=fl at *;clear hlc hy hyt pb he hnd hlt20 ekz hbb
      cases bb with
      | true=>
       have hbt:b=true:=HB.out.2 ⟨y,u1b HYJ.out,by
        rw [EK.out];have:=HBB.out
        simpa using this⟩
       subst hbt
       go_wp2_with (first
        | (go_at_call 87;refine m4_ (RI.out) fun w1 hb1 hc1 hf1 hs1=>?_;have gl2:=hb1.q gl)
        | (go_at_call 88;refine m4_ (FL.out _ (E.out.trans hb1)) fun w2 hb2 hc2 hf2 hs2=>?_)
        | (go_at_call 85;refine m4_ (HC.out _ (E.out.trans (hb1.trans hb2))) fun w3 hb3 hc3 hf3 hs3=>?_))
       go_returns;exact ⟨rfl,E.out.trans ((hb1.trans hb2).trans hb3)⟩
      | false=>
       have A2:Hid (∀ i z,i < j+1->Y[i]? = some z->(a:Int) ∉ Hp.kz (Hp.ow S.words) S.sizes z):=hZ (fun i z hi hz=>by
        by_cases e:i=j
        . subst e;rw [HYJ.out] at hz
          cases hz
          rw [EK.out];have:=HBB.out
          simpa using this
        . exact A.out i z (by omega) hz)
       go_wp2_with (first
        | (go_at_call 87;refine m4_ (RI.out) fun w1 hb1 hc1 hf1 hs1=>?_;have gl2:=hb1.q gl)
        | (go_at_call 88;refine m4_ (FL.out _ (E.out.trans hb1)) fun w2 hb2 hc2 hf2 hs2=>?_)
        | (go_at_call 85;refine m4_ (HC.out _ (E.out.trans (hb1.trans hb2))) fun w3 hb3 hc3 hf3 hs3=>?_))
       have E2:=hZ (E.out.trans ((hb1.trans hb2).trans hb3))
       go_roundg (m-(j+1))
       case measure=>omega
       case rel=>exact ⟨j+1,by omega,H0c _,by go_num,E2,A2⟩
   have:j=m:=by omega
   subst this;have tk:decide ((j:Int) < (j:Int))=false:=dF;have hbf:b=false:=by
    cases b with
    | false=>rfl
    | true=>
     obtain ⟨y,hy,hk⟩:=HB.out.1 rfl;obtain ⟨i,hi,e⟩:=u9b hy;exact absurd hk (A.out i y (by rw [<- EM.out];exact hi) (by rw [r1b hi,e]))
   subst hbf
   go_wp2_with fail
   go_returns;exact ⟨rfl,E.out⟩
def U4b (w:World) (T:List Nat) (e:Ending) (w':World):Prop:=∃ Y p c b0,e = .returned (.slice p Y.length c)/\w.heap.size<=b0/\Row w' b0 p c (Hp.K9a Y)/\Ext w w'/\(∀ a,a ∈ Y ↔ a ∈ T)/\Y.length=T.length
theorem k2b {ch:Nat->List Nat} (h:RAt w r S) (hw:Hp.Wf S B L ch) (hT:S.live=some T) :
    Calls prog 83 #[.pointer (some ⟨r.rb,0,none⟩)] w (U4b w T):=by
  have CELLS:=hZ (c2a h hw);have H:=hZ h;have HW:=hZ hw;have HT:=hZ hT;have few:=hw.few;have hhi:=hw.hi;have hle:=h.words.le;have hcap:=h.words.cap;have hlt:=h.lt;obtain ⟨gbb,o',hp',hbb,_⟩:=h.words.cells (by have:=hw.lo;omega)
  cases hp'
  have c2:=h.c2;obtain ⟨n,hn⟩:∃ n,S.words.length=n:=⟨_,rfl⟩
  have EN:=hZ hn;rw [hn] at c2 hle few hhi;obtain ⟨m,hm⟩:∃ m,S.taken.length=m:=⟨_,rfl⟩
  have EM:=hZ hm;rw [hm] at few;clear h hw hT hn hm;go_enter func83,ntmps83
  go_wp2_with (go_at_call 82;refine CELLS.out.mono ?_;rintro e w1 ⟨p,c,rfl,hR,hE⟩;rw [B8a,EM.out];have RR:=hZ hR.at_;have E1:=hZ hE)
  clear hR hE CELLS;have lle:=RR.out.le;have lcap:=RR.out.cap;rw [B8a,EM.out] at lle
  go_loopg [3,5] (2 * m+1) (fun g o nn wr=>∃ (Y:List Nat) (k:Int) (p2:Option Addr) (c2':Nat),2 * (m-Y.length)<=g/\(k < (Y.length:Int)->2 * (m-Y.length)+1<=g)/\k<=(Y.length:Int)/\o = .slice p2 Y.length c2'/\nn = .int .i64 k/\Hid (k=(Y.length:Int)->Hp.z2a S Y m)/\Hid (Hp.L5a S T Y)/\Hid (Row wr w1.heap.size p2 c2' (Hp.K9a Y))/\Hid (Ext w1 wr))
  case atStart=>exact ⟨[],-1,none,0,by simp,by simp,by simp,rfl,rfl,hZ (fun e=>by simp at e),hZ (Hp.L5a.start S T),hZ (Row.nil _ _),hZ (Ext.refl _)⟩
  case round=>
   obtain ⟨Y,k,p2,cp2,hg1,hg2,hk,rfl,rfl,SH,F,R,E⟩:=hrel;have flen:=F.out.len HW.out HT.out;rw [EM.out] at flen;obtain ⟨yl,hyl⟩:∃ yl,Y.length=yl:=⟨_,rfl⟩
   have EY:=hZ hyl;rw [hyl] at hg1 hg2 hk flen ⊢;clear hyl
   by_cases hkl:k < (yl:Int)
   . have tk:decide (k < (yl:Int))=true:=E5c hkl;have hg3:=hg2 hkl;clear SH hg2 hg1
     go_wp2_with fail
     go_loopg [3,6] m (fun g o i wr=>∃ (j:Nat) (Y2:List Nat) (p2:Option Addr) (c2':Nat),j<=m/\m-j<=g/\yl<=Y2.length/\o = .slice p2 Y2.length c2'/\i = .int .i64 j/\Hid (Y2.length=yl->Hp.z2a S Y2 j)/\Hid (Hp.L5a S T Y2)/\Hid (Row wr w1.heap.size p2 c2' (Hp.K9a Y2))/\Hid (Ext w1 wr))
     case atStart=>exact ⟨0,Y,p2,cp2,G9c _,by omega,by rw [EY.out];exact H0c _,by rw [EY.out],rfl,hZ (fun _ i _ hi=>absurd hi (D0c _)),F,R,E⟩
     case round=>
      obtain ⟨j,Y2,p3,c3,hj,hgj,hy2,rfl,rfl,SH,F2,R2,E2⟩:=hrel;clear F R E EY;have flen2:=F2.out.len HW.out HT.out;rw [EM.out] at flen2
      by_cases hlt2:j < m
      . obtain ⟨a,ha,haj,hrd⟩:=L1a (S:=S) (j:=j) (by rw [EM.out];exact hlt2);have pa:=HW.out.part ha;obtain ⟨lb,lo,hlp,hlbb,hlc⟩:=(RR.out.ext E2.out).cells (by rw [B8a,EM.out];omega);have gl:=hlc j _ hrd;have Ew:=E1.out.trans E2.out;have c2w:=Ew.q c2;have gw:=(H.out.ext Ew).get (j:=a+2) (by omega);rw [EN.out] at pa;have zb:r.rb < wr.heap.size:=x4b hlt Ew.le;have zg:r.gb < wr.heap.size:=x4b hbb Ew.le;have a2:a+2 < n:=by omega
        have EW:=hZ Ew;have HA:=hZ ha;have HAJ:=hZ haj;have HY2:=hZ (fun y (hy:y ∈ Y2)=>(Hp.V2b HW.out HT.out).1 y (F2.out.sub y hy));have SR:=hZ R2.out.at_;have tk:decide ((j:Int) < (m:Int))=true:=dT;have wsz:w1.heap.size<=wr.heap.size:=E2.out.le;have q1:=SR.out.le;have q2:=SR.out.cap;rw [Hp.C1a] at q1;obtain ⟨bh,hbh⟩:∃ bh,Y2.contains a=bh:=⟨_,rfl⟩
        have HAS:=hZ (fun W (hW:Ext wr W)=>by
         have:=b3a (Hp.P1a.trans hbh) (SR.out.ext hW);rw [Hp.C1a] at this;exact this)
        have HBH:=hZ hbh;obtain ⟨i1,i2,i3,i4⟩:IntKind.i64.wrap (((a:Nat):Int)+2)=((a:Nat):Int)+2/\(0:Int)<=((a:Nat):Int)+2/\((a:Nat):Int)+2 < ((n:Nat):Int)/\(((a:Nat):Int)+2).toNat=a+2:=⟨E4c _ (by omega),by omega,by omega,by omega⟩
        subst hlp;clear hlc hrd ha haj pa Ew hbh;generalize hv:Hp.ow S.words (a+2)=v at gw;have HV:=hZ hv;clear hv
        cases bh with
        | true=>
         have S2:Hid (Y2.length=yl->Hp.z2a S Y2 (j+1)):=hZ (fun e i z hi hz hwz=>by
          by_cases e':i=j
          . subst e';rw [HAJ.out] at hz
            cases hz
            have:=HBH.out
            simpa using this
          . exact SH.out e i z (by omega) hz hwz)
         go_wp2_with fail
         have pr67a:=Ext.r c2w;have pr67b:=Ext.r gl
         have pr67c:=fun u_ (h_:Ext wr u_)=>(h_.cell zg (r.go+(a+2))).trans gw
         refine rg0 wr ?_
         refine' tkd 0 ?_;refine' tkd 2 ?_;refine' tkL 4 ?_;refine' tkR 5 (v:=.bool true) rfl (Or.inr ⟨by rfl,85,_, ?hx5_1758, ?hy5_1758⟩) ?rest5_1758
         case hx5_1758=>(intro w hSw;go_simp;try with_reducible rfl)
         case hy5_1758=>exact fun w hE=>(HAS.out _ hE).mono (fun _ _ h=>⟨h.1,h.2,Ext.trans hE h.2⟩)
         refine layy ?_;refine' tkd 6 ?_;refine' tkN 8 ?_;refine' tkN 9 ?_;refine' tkN 10 ?_;refine' tkN 11 ?_;refine' tkN 12 ?_;refine' tkN 13 ?_;refine' tkN 14 ?_;refine' tkN 15 ?_;refine' tkN 16 ?_;refine' tkN 17 ?_;refine' tkN 18 ?_;refine' tkN 19 ?_;refine' tkN 20 ?_;refine' tkN 21 ?_;refine' tkN 22 ?_;refine' tkN 23 ?_;refine' tkN 24 ?_;refine' tkN 25 ?_;refine' tkN 26 ?_;refine' tkN 27 ?_;refine' tkN 28 ?_;refine' tkL 29 ?_;refine A0a (by kernel_rfl) ?_ _;intro x1 _ Ex1;clear pr67a pr67b pr67c;have E3:=hZ (E2.out.trans Ex1);have R3:=hZ (R2.out.ext Ex1)
         go_wp2_with fail
         go_roundg (m-(j+1))
         case measure=>omega
         case rel=>exact ⟨j+1,Y2,p3,c3,by omega,H0c _,hy2,rfl,by go_num,S2,F2,R3,E3⟩
        | false=>
         have hnot:a ∉ Y2:=by
          have:=HBH.out
          simpa using this
         have hnots:=hZ hnot;clear hnot
         by_cases hpos:0 < v
         . have t1:decide (v > 0)=true:=E5c hpos;have t2:decide (0 < v)=true:=E5c hpos;have F3:=hZ (F2.out.add HW.out HT.out HA.out hnots.out (.inl (by rw [HV.out];exact hpos)));clear hpos
           go_wp2_with fail
           have pr68a:=Ext.r c2w;have pr68b:=Ext.r gl
           have pr68c:=fun u_ (h_:Ext wr u_)=>(h_.cell zg (r.go+(a+2))).trans gw
           refine rg0 wr ?_
           refine' tkd 0 ?_;refine' tkd 2 ?_;refine' tkL 4 ?_;refine' tkR 5 (v:=.bool false) rfl (Or.inr ⟨by rfl,85,_, ?hx5_1788, ?hy5_1788⟩) ?rest5_1788
           case hx5_1788=>(intro w hSw;go_simp;try with_reducible rfl)
           case hy5_1788=>exact fun w hE=>(HAS.out _ hE).mono (fun _ _ h=>⟨h.1,h.2,Ext.trans hE h.2⟩)
           refine layy ?_;refine' tkd 6 ?_;refine' tkd 8 ?_;refine' tkd 10 ?_;refine' tkd 12 ?_;refine' tkd 14 ?_;refine' tkd 16 ?_;refine' tkd 18 ?_;refine' tkL 20 ?_;refine' tkN 21 ?_;refine' tkN 22 ?_;refine' tkN 23 ?_;refine' tkN 24 ?_;refine' tkN 25 ?_;refine' tkN 26 ?_;refine' tkN 27 ?_;refine' tkd 28 ?_;refine A0a (by kernel_rfl) ?_ _;intro x1 _ Ex1;clear pr68a pr68b pr68c;have E3:=hZ (E2.out.trans Ex1);have R3:=hZ (R2.out.ext Ex1);have gl2:=Ex1.q gl;have zl:=x4b hlbb Ex1.le;have wsz2:=G5c wsz Ex1.le;have RA:=hZ (R3.out.ext (Ext.alloc (Ext.refl _) (.cells #[.int .i64 a] 3)));have FL3:=F3.out.len HW.out HT.out;have eF:(Hp.K9a Y2).length=Y2.length:=Hp.C1a Y2
           go_wp2_with (at_builtin;rw [<- Hp.C1a Y2];refine C0a rfl _ _ rfl (y:=(a:Int)) rfl rfl RA.out (by go_simp) (by omega) (by omega) (by omega) (by simp;omega) ?_;intro g8 c8 x8 hR8 hG8;obtain ⟨row,hgr,hrow⟩:=id hG8;have E8:Ext w1 x8:=M0a (E3.out.alloc _) hgr hrow;have R8H:=hZ hR8)
           go_roundg (m-(j+1))
           case measure=>omega
           case rel=>exact ⟨j+1,Y2 ++ [a],some ⟨g8,0,none⟩,c8,by omega,H0c _,by simp;omega,by simp [Hp.C1a],by go_num,hZ (fun e=>by simp at e;omega),F3,hZ (by rw [Hp.g8a];exact R8H.out),hZ E8⟩
         have t1:decide (v > 0)=false:=D7c hpos;have t2:decide (0 < v)=false:=D7c hpos;have HPOS:=hZ hpos;clear hpos
         by_cases hkd:Hp.k0b S Y2 a
         . have F3:=hZ (F2.out.add HW.out HT.out HA.out hnots.out (.inr hkd));have KID:=hZ (fun W (hW:Ext wr W)=>rKid (H.out.ext (EW.out.trans hW)) HW.out HY2.out (SR.out.ext hW) (a:=a) (b:=true) ⟨fun _=>hkd,fun _=>rfl⟩);clear hkd
           go_wp2_with fail
           have pr69a:=Ext.r c2w;have pr69b:=Ext.r gl
           have pr69c:=fun u_ (h_:Ext wr u_)=>(h_.cell zg (r.go+(a+2))).trans gw
           refine rg0 wr ?_
           refine' tkd 0 ?_;refine' tkd 2 ?_;refine' tkL 4 ?_;refine' tkR 5 (v:=.bool false) rfl (Or.inr ⟨by rfl,85,_, ?hx5_1818, ?hy5_1818⟩) ?rest5_1818
           case hx5_1818=>(intro w hSw;go_simp;try with_reducible rfl)
           case hy5_1818=>exact fun w hE=>(HAS.out _ hE).mono (fun _ _ h=>⟨h.1,h.2,Ext.trans hE h.2⟩)
           refine layy ?_;refine' tkd 6 ?_;refine' tkd 8 ?_;refine' tkd 10 ?_;refine' tkd 12 ?_;refine' tkd 14 ?_;refine' tkd 16 ?_;refine' tkd 18 ?_;refine' tkd 20 ?_;refine' tkd 22 ?_;refine' tkd 24 ?_;refine' tkL 26 ?_;refine' tkR 27 (v:=.bool true) rfl (Or.inr ⟨by rfl,140,_, ?hx27_1840, ?hy27_1840⟩) ?rest27_1840
           case hx27_1840=>(intro w hSw;go_simp;try with_reducible rfl)
           case hy27_1840=>exact fun w hE=>(KID.out _ hE).mono (fun _ _ h=>⟨h.1,h.2,Ext.trans hE h.2⟩)
           refine layy ?_;refine' tkd 28 ?_;refine A0a (by kernel_rfl) ?_ _;intro x1 _ Ex1;clear pr69a pr69b pr69c;have E3:=hZ (E2.out.trans Ex1);have R3:=hZ (R2.out.ext Ex1);have gl2:=Ex1.q gl;have zl:=x4b hlbb Ex1.le;have wsz2:=G5c wsz Ex1.le;have RA:=hZ (R3.out.ext (Ext.alloc (Ext.refl _) (.cells #[.int .i64 a] 3)));have FL3:=F3.out.len HW.out HT.out;have eF:(Hp.K9a Y2).length=Y2.length:=Hp.C1a Y2
           go_wp2_with (at_builtin;rw [<- Hp.C1a Y2];refine C0a rfl _ _ rfl (y:=(a:Int)) rfl rfl RA.out (by go_simp) (by omega) (by omega) (by omega) (by simp;omega) ?_;intro g8 c8 x8 hR8 hG8;obtain ⟨row,hgr,hrow⟩:=id hG8;have E8:Ext w1 x8:=M0a (E3.out.alloc _) hgr hrow;have R8H:=hZ hR8)
           go_roundg (m-(j+1))
           case measure=>omega
           case rel=>exact ⟨j+1,Y2 ++ [a],some ⟨g8,0,none⟩,c8,by omega,H0c _,by simp;omega,by simp [Hp.C1a],by go_num,hZ (fun e=>by simp at e;omega),F3,hZ (by rw [Hp.g8a];exact R8H.out),hZ E8⟩
         have KID:=hZ (fun W (hW:Ext wr W)=>rKid (H.out.ext (EW.out.trans hW)) HW.out HY2.out (SR.out.ext hW) (a:=a) (b:=false) ⟨fun e=>(by cases e),fun e=>absurd e hkd⟩);have S2:Hid (Y2.length=yl->Hp.z2a S Y2 (j+1)):=hZ (fun e i z hi hz hwz=>by
          by_cases e':i=j
          . subst e';rw [HAJ.out] at hz
            cases hz
            rcases hwz with q | q
            . rw [HV.out] at q;exact absurd q HPOS.out
            exact absurd q hkd
          . exact SH.out e i z (by omega) hz hwz)
         clear hkd
         go_wp2_with fail
         have pr70a:=Ext.r c2w;have pr70b:=Ext.r gl
         have pr70c:=fun u_ (h_:Ext wr u_)=>(h_.cell zg (r.go+(a+2))).trans gw
         refine rg0 wr ?_
         refine' tkd 0 ?_;refine' tkd 2 ?_;refine' tkL 4 ?_;refine' tkR 5 (v:=.bool false) rfl (Or.inr ⟨by rfl,85,_, ?hx5_1848, ?hy5_1848⟩) ?rest5_1848
         case hx5_1848=>(intro w hSw;go_simp;try with_reducible rfl)
         case hy5_1848=>exact fun w hE=>(HAS.out _ hE).mono (fun _ _ h=>⟨h.1,h.2,Ext.trans hE h.2⟩)
         refine layy ?_;refine' tkd 6 ?_;refine' tkd 8 ?_;refine' tkd 10 ?_;refine' tkd 12 ?_;refine' tkd 14 ?_;refine' tkd 16 ?_;refine' tkd 18 ?_;refine' tkd 20 ?_;refine' tkd 22 ?_;refine' tkd 24 ?_;refine' tkL 26 ?_;refine' tkR 27 (v:=.bool false) rfl (Or.inr ⟨by rfl,140,_, ?hx27_1870, ?hy27_1870⟩) ?rest27_1870
         case hx27_1870=>(intro w hSw;go_simp;try with_reducible rfl)
         case hy27_1870=>exact fun w hE=>(KID.out _ hE).mono (fun _ _ h=>⟨h.1,h.2,Ext.trans hE h.2⟩)
         refine layy ?_;refine' tkd 28 ?_;refine A0a (by kernel_rfl) ?_ _;intro x1 _ Ex1;clear pr70a pr70b pr70c;have E3:=hZ (E2.out.trans Ex1);have R3:=hZ (R2.out.ext Ex1)
         go_wp2_with fail
         go_roundg (m-(j+1))
         case measure=>omega
         case rel=>exact ⟨j+1,Y2,p3,c3,by omega,H0c _,hy2,rfl,by go_num,S2,F2,R3,E3⟩
      have:j=m:=by omega
      subst this;have tk:decide ((j:Int) < (j:Int))=false:=dF
      go_wp2_with fail
      go_roundg (2 * (j-yl))
      case measure=>omega
      case rel=>exact ⟨Y2,(yl:Int),p3,c3,by omega,fun q=>by omega,by omega,rfl,rfl,hZ (fun e=>SH.out (by omega)),F2,R2,E2⟩
   have tk:decide (k < (yl:Int))=false:=D7c hkl;have FIN:=hZ (F.out.fin HW.out HT.out (by rw [EM.out];exact SH.out (by rw [EY.out];omega)))
   go_wp2_with fail
   go_returns;exact ⟨Y,p2,cp2,w1.heap.size,by rw [EY.out];rfl,E1.out.le,R.out,E1.out.trans E.out,FIN.out.1,FIN.out.2⟩
theorem G4b (h:SliceAt w p c l) (x:Int) :
    Calls prog 146 #[.slice p l.length c,.int .i64 x] w (Rt w (.int .i64 (Hp.nameOf l x))):=by
  have hle:=h.le;have hcap:=h.cap;unfold Hp.nameOf
  by_cases h0:0<=x
  . rw [H5c h0];obtain ⟨i,rfl⟩:∃ i:Nat,x=i:=⟨x.toNat,by omega⟩
    rw [z5b];have t0:decide ((i:Int) < 0)=false:=dF
    by_cases hi:i < l.length
    . obtain ⟨y,hy⟩:=A4a hi;obtain ⟨b,o,rfl,hb,hc⟩:=h.cells (by omega);have g:=hc i y hy;have e:l.getD i 0=y:=by
       rw [q1b];unfold Hp.rd at hy;rw [hy];rfl
      rw [e];have t1:decide ((i:Int) ≥ (l.length:Int))=false:=dF;have t2:decide ((l.length:Int)<=(i:Int))=false:=dF;clear h hc hy e h0;generalize l.length=n at *;go_enter func146,ntmps146
      go_wp2_with fail
      go_returns;exact ⟨rfl,exx⟩
    have e:l.getD i 0=0:=by
     rw [q1b,s9b (by omega)];rfl
    rw [e];have t1:decide ((i:Int) ≥ (l.length:Int))=true:=dT;have t2:decide ((l.length:Int)<=(i:Int))=true:=dT;clear h e h0;generalize l.length=n at *;go_enter func146,ntmps146
    go_wp2_with fail
    go_returns;exact ⟨rfl,exx⟩
  rw [H4c h0];have t0:decide (x < 0)=true:=dT;clear h;generalize l.length=n at *;go_enter func146,ntmps146
  go_wp2_with fail
  go_returns;exact ⟨rfl,exx⟩
theorem cutK {P:Program} {c:Code} {Q:Exit->Act->World->Prop} {a:Act} {F:World->Prop} (h:F w) (k:∀ w',F w'->c.wp P Q a w'):c.wp P Q a w:=k w h
structure ExAt (w:World) (g:Nat) (l:List Int):Prop where
 row:w.heap[g]? = some (.cells (ints l).toArray 3 (0,0))
 wf:∀ x ∈ l,-9223372036854775808<=x/\x<=9223372036854775807
namespace ExAt
variable {w w':World} {g:Nat} {l:List Int}
theorem words (h:ExAt w g l):A3a w g l:=⟨⟨[],by rw [C7c];exact h.row⟩,h.wf⟩
theorem F9a (h:ExAt w g l) (e:w'.heap[g]? = w.heap[g]?):ExAt w' g l:=⟨by rw [e];exact h.row,h.wf⟩
theorem lt (h:ExAt w g l):g < w.heap.size:=h.words.lt
theorem ext (h:ExAt w g l) (k:Ext w w'):ExAt w' g l:=h.F9a (k.block g h.lt)
theorem set (h:ExAt w g l) {v:Int} (hj:j < l.length) (h1 : -9223372036854775808<=v) (h2:v<=9223372036854775807):ExAt (w.setCell ⟨g,j,none⟩ (.int .i64 v)) g (l.set j v):=by
 refine ⟨?_,fun x hx=>?_⟩
 . rw [setCell_eq_setRow w g j _ _ _ _ h.row,setRow_heap w g _ _ _ _ h.row];simp [ints,List.map_set]
 rcases List.mem_or_eq_of_mem_set hx with hx | rfl
 . exact h.wf x hx
 exact ⟨h1,h2⟩
theorem toRow (h:ExAt w g l) {base:Nat} (hb:base<=g) (hn:l.length=n) (hm:n<=1000000):Row w base (some ⟨g,0,none⟩) n l:=
 ⟨⟨by simp [ints],.inr ⟨g,n,_,by rw [hn],hb,h.row,by omega,by unfold maxLen;omega,by simp [ints,hn],by simp [ints,s6b]⟩⟩,h.wf⟩
theorem made (w:World) (n g:Nat) (hg:g=w.heap.size):ExAt (w.alloc (.cells (madeCells #[.int .i64 0] n) 3)) g (List.replicate n 0):=by
 subst hg
 refine ⟨?_,fun x hx=>by rw [r4b hx];omega⟩
 rw [E7b]
 congr 2
 apply Array.ext
 . simp [ints,size_madeCells]
 intro i h1 h2
 have hi:i < n:=by simpa [size_madeCells] using h1
 simp [madeCells,ints,hi,Nat.mod_one]
end ExAt
theorem rKept {p1 p3:Option Addr} {c1 c2 c3:Nat} {Y P:List Int} (h1:SliceAt w p1 c1 A) (h2:SliceAt w p2 c2 Y) (h3:SliceAt w p3 c3 P) (hA:A.length<=1000000) (hP:P.length<=1000000) :
    Calls prog 95 #[.slice p1 A.length c1,.slice p2 Y.length c2,.slice p3 P.length c3] w (Y6a w (A.map (Hp.N7a Y P))):=by
  have H1:=hZ h1;have H2:=hZ h2;have H3:=hZ h3;have le1:=h1.le;have cp1:=h1.cap;have le3:=h3.le;have cp3:=h3.cap;obtain ⟨n,hn⟩:∃ n,A.length=n:=⟨_,rfl⟩
  have EN:=hZ hn;obtain ⟨m,hm⟩:∃ m,P.length=m:=⟨_,rfl⟩
  have EM:=hZ hm;have HAS:=hZ (fun x (b:Bool) (hb:Y.contains x=b) W (hW:Ext w W)=>b3a hb (h2.ext hW));rw [hn] at hA le1 ⊢;rw [hm] at hP le3 ⊢;generalize Y.length=yl at *;clear h1 h2 h3 hn hm;have hmk:=run_make_row' (P:=prog) 22 3 (.int .i64 0) 8 underlying22 (show (prog.info? 3).map (fun i=>(i.zero,i.size,i.bytes))=some (some (.int .i64 0),1,8) from by kernel_rfl) rfl .i64 .i64 n (by omega) (by omega);go_enter func95,ntmps95;go_upto_region 2 with fail
  have E0:=hZ (show Ext w (w.alloc (.cells (madeCells #[.int .i64 0] n) 3)) from Ext.alloc (Ext.refl _) _);have O0:=hZ (ExAt.made w n _ rfl);generalize w.alloc (.cells (madeCells #[.int .i64 0] n) 3)=w0 at E0 O0 ⊢;obtain ⟨go,hgo⟩:∃ go,w.heap.size=go:=⟨_,rfl⟩
  have EGO:=hZ hgo;rw [hgo] at O0 ⊢;clear hgo hmk
  go_wp2_with fail
  go_loopg [8] n (fun g i wr=>∃ j:Nat,j<=n/\n-j<=g/\i = .int .i64 j/\Hid (ExAt wr go (Hp.R2a (Hp.N7a Y P) A j))/\Hid (Ext w wr))
  case atStart=>exact ⟨0,G9c _,by omega,rfl,hZ (by rw [Hp.N3b,EN.out];exact O0.out),E0⟩
  case round=>
   obtain ⟨j,hj,hg,rfl,O,E⟩:=hrel;clear O0 E0
   by_cases hlt:j < n
   . obtain ⟨x,hx⟩:=A4a (l:=A) (j:=j) (by rw [EN.out];exact hlt);obtain ⟨b1,o1,hp1,hb1,hc1⟩:=H1.out.cells (by rw [EN.out];omega);have g1:=hc1 j x hx;have bx:=H1.out.wf x (u1b hx);have gx:=E.out.q g1;have tk:decide ((j:Int) < (n:Int))=true:=dT;obtain ⟨bt,hbt⟩:∃ bt,Y.contains x=bt:=⟨_,rfl⟩
     have HS:=hZ (HAS.out x bt hbt wr E.out);have fl:=Hp.S5b (f:=Hp.N7a Y P) (A:=A) (j:=j) (by rw [EN.out];omega);rw [EN.out] at fl;have HX:=hZ hx;have HBT:=hZ hbt;have FLN:=hZ fl;clear hc1 hx hbt fl;subst hp1
     cases bt with
     | false=>
      have O2:=hZ (show ExAt wr go (Hp.R2a (Hp.N7a Y P) A (j+1)) by rw [Hp.M7b HX.out (by unfold Hp.N7a;rw [HBT.out];rfl)];exact O.out)
      go_wp2_with (go_at_call 85;refine m4_ (HS.out) fun w4 hb4 hc4 hf4 hs4=>?_)
      go_roundg (n-(j+1))
      case measure=>omega
      case rel=>exact ⟨j+1,by omega,H0c _,by go_num,hZ (O2.out.ext hb4),hZ (E.out.trans hb4)⟩
     | true=>
      have KF:=hZ (show Hp.N7a Y P x=Hp.a0a (P.drop 0) x x by unfold Hp.N7a;rw [HBT.out];rfl);go_upto_region 6 with (go_at_call 85;refine m4_ (HS.out) fun w4 hb4 hc4 hf4 hs4=>?_)
      have O4:=hZ (O.out.ext hb4);have E4:=hZ (E.out.trans hb4);have gx4:=E4.out.q g1;have gz:=O4.out.words.get (j:=j) (x:=_) (Hp.F7a (by rw [FLN.out];exact hlt));have fr:=O4.out.words.froz j;have zo:=O4.out.lt;have KB:But [go] w4 (w4.setCell ⟨go,j,none⟩ (.int .i64 x)):=(But.refl _ _).setCell (by simp) _;have O5:=hZ (O4.out.set (j:=j) (v:=x) (by rw [FLN.out];exact hlt) bx.1 bx.2);have E5:=hZ (KB.D3a E4.out (fun b hb=>by have:b=go:=(by simpa using hb);have:=EGO.out;omega));clear gx hb4 hc4 hf4 hs4 O E KB;go_upto_region 7 with fail
      refine cutK (F:=fun W=>Hid (ExAt W go ((Hp.R2a (Hp.N7a Y P) A j).set j x))/\Hid (Ext w W)) ⟨O5,E5⟩ ?_;rintro w6 ⟨O6,E6⟩;clear O5 E5 gz fr zo gx4 O4 E4
      go_wp2_with fail
      go_loopg [9] m (fun g i wr=>∃ (k:Nat) (cur:Int),m-k<=g/\k<=m+1/\i = .int .i64 k /\ -9223372036854775808<=cur/\cur<=9223372036854775807/\Hid (Hp.a0a (P.drop k) x cur=Hp.N7a Y P x)/\Hid (ExAt wr go ((Hp.R2a (Hp.N7a Y P) A j).set j cur))/\Hid (Ext w wr))
      case atStart=>exact ⟨0,x,by omega,by omega,rfl,bx.1,bx.2,hZ KF.out.symm,O6,E6⟩
      case round=>
       obtain ⟨k,cur,hgk,hkm,rfl,bc1,bc2,SC,O,E⟩:=hrel;clear O6 E6
       by_cases hk:k+1 < m
       . obtain ⟨a,ha⟩:=A4a (l:=P) (j:=k) (by rw [EM.out];omega);obtain ⟨b,hb⟩:=A4a (l:=P) (j:=k+1) (by rw [EM.out];omega);obtain ⟨b3,o3,hp3,hb3,hc3⟩:=H3.out.cells (by rw [EM.out];omega);have ga3:=E.out.q (hc3 k a ha);have gb3:=(E.out.cell hb3 (o3+(k+1))).trans (hc3 (k+1) b hb);have bb:=H3.out.wf b (u1b hb);have gx:=E.out.q g1;have SC2:=hZ (SC.out.symm.trans (Hp.O3b ha hb));have z1:=x4b hb1 E.out.le;have z3:=x4b hb3 E.out.le;have wk:IntKind.i64.wrap ((k:Int)+1)=(k:Int)+1:=E4c _ (by omega);have tk2:decide ((k:Int)+1 < (m:Int))=true:=dT;have km:k < m:=by omega
         clear hc3 ha hb;subst hp3
         by_cases hax:a=x
         . subst hax;have t0:(a == a)=true:=by simp
           have SC3:=hZ (show Hp.a0a (P.drop (k+2)) a b=Hp.N7a Y P a by have:=SC2.out;rw [H5c rfl] at this;exact this.symm)
           go_wp2_with fail
           have pr71a:=Ext.r gx;have pr71b:=Ext.r ga3
           refine rg0 wr ?_
           refine' tkd 0 ?_;refine' tkd 2 ?_;refine' tkd 4 ?_;refine' tkd 6 ?_;refine' tkL 8 ?_;refine A0a (by kernel_rfl) ?_ _;intro x1 _ Ex1;clear pr71a pr71b;have OO:=hZ (O.out.ext Ex1);have EE:=hZ (E.out.trans Ex1);have gb4:=(Ex1.cell z3 (o3+(k+1))).trans gb3;have gz:=OO.out.words.get (j:=j) (x:=_) (Hp.F7a (by simp;rw [FLN.out];exact hlt));have fr:=OO.out.words.froz j;have zo:=OO.out.lt;have KB:But [go] x1 (x1.setCell ⟨go,j,none⟩ (.int .i64 b)):=(But.refl _ _).setCell (by simp) _;have O5:=hZ (show ExAt (x1.setCell ⟨go,j,none⟩ (.int .i64 b)) go ((Hp.R2a (Hp.N7a Y P) A j).set j b) by
            have:=OO.out.set (j:=j) (v:=b) (by simp;rw [FLN.out];exact hlt) bb.1 bb.2;rw [List.set_set] at this;exact this)
           have E5:=hZ (KB.D3a EE.out (fun b hb=>by have:b=go:=(by simpa using hb);have:=EGO.out;omega));obtain ⟨y1,y2,y3,y4⟩:IntKind.i64.wrap (((k:Nat):Int)+1)=((k:Nat):Int)+1/\(0:Int)<=((k:Nat):Int)+1/\((k:Nat):Int)+1 < ((m:Nat):Int)/\(((k:Nat):Int)+1).toNat=k+1:=⟨E4c _ (by omega),by omega,by omega,by omega⟩
           clear KB gx ga3 gb3
           go_wp2_with fail
           go_roundg (m-(k+2))
           case measure=>omega
           case rel=>exact ⟨k+2,b,H0c _,by omega,by go_num,bb.1,bb.2,SC3,O5,E5⟩
         have t0:(a == x)=false:=by simpa using hax
         have SC3:=hZ (show Hp.a0a (P.drop (k+2)) x cur=Hp.N7a Y P x by have:=SC2.out;rw [H4c hax] at this;exact this.symm);clear hax
         go_wp2_with fail
         have pr72a:=Ext.r gx;have pr72b:=Ext.r ga3
         refine rg0 wr ?_
         refine' tkd 0 ?_;refine' tkd 2 ?_;refine' tkd 4 ?_;refine' tkd 6 ?_;refine' tkL 8 ?_;refine A0a (by kernel_rfl) ?_ _;intro x1 _ Ex1;clear pr72a pr72b;have OO:=hZ (O.out.ext Ex1);have EE:=hZ (E.out.trans Ex1)
         go_wp2_with fail
         go_roundg (m-(k+2))
         case measure=>omega
         case rel=>exact ⟨k+2,cur,H0c _,by omega,by go_num,bc1,bc2,SC3,OO,EE⟩
       have tk2:decide ((k:Int)+1 < (m:Int))=false:=dF;have ec:cur=Hp.N7a Y P x:=by rw [<- SC.out,Hp.Q5b (by rw [EM.out];omega)]
       have O2:=hZ (show ExAt wr go (Hp.R2a (Hp.N7a Y P) A (j+1)) by rw [<- Hp.X0b HX.out,<- ec];exact O.out);clear ec
       go_wp2_with fail
       go_roundg (n-(j+1))
       case measure=>omega
       case rel=>exact ⟨j+1,by omega,H0c _,by go_num,O2,E⟩
   have:j=n:=by omega
   subst this;have tk:decide ((j:Int) < (j:Int))=false:=dF;have eF:Hp.R2a (Hp.N7a Y P) A j=A.map (Hp.N7a Y P):=by rw [<- EN.out];exact Hp.U8b _ _
   have OF:=hZ (show ExAt wr go (A.map (Hp.N7a Y P)) by rw [<- eF];exact O.out);clear eF
   go_wp2_with fail
   go_returns;exact ⟨some ⟨go,0,none⟩,j,by rw [C6c,EN.out];rfl,OF.out.toRow (by have:=EGO.out;omega) (by rw [C6c];exact EN.out) hA,E.out⟩
end Go.Proofs.YtdokmmhjmclmnaaGreat
