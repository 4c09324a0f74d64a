/- Part 36 of a proof. -/
import Derived.Test.YtdokmmhjmclmnaaGreatMU35
set_option linter.unusedSimpArgs false
set_option linter.unusedVariables false
set_option linter.unusedSectionVars false
set_option linter.unnecessarySimpa false
set_option maxHeartbeats 16000000
set_option maxRecDepth 100000
namespace Go.Proofs.YtdokmmhjmclmnaaGreat
open Go.Proofs.Tryz
variable {W' w w' w0 wb:World} {B a b bx c ca cap ce cn f g i j k lb m n qc:Nat} {choice e t x:Int} {A W fs ks l o z:List Int} {D T Y:List Nat} {p p2 pa pe pn q:Option Addr} {d:Hd} {S S':Hp.Hs} {r:Rd} {L:List Hp.Tl} {M:List (Nat × Int)} {s:Hp.Sc}
open Go.RowKit Go.Maps
theorem d1b {S1 S2:Hp.Hs} {k0:Nat} {ch:Nat->List Nat} (h:RW w r S) (hw:Hp.Wf S B L ch) (hco:S.collect=some (k0,S1)) (hmv:S1.moved=some (M,S2)) :
    Calls prog 97 #[.pointer (some ⟨r.rb,0,none⟩)] w (g3b w r S1 S2 M):=by
  obtain ⟨T,hT⟩:=Hp.M5a hw;obtain ⟨S1',L1,hco2,-,hw1⟩:=Hp.M7a hw hT;rw [hco] at hco2;simp only [z7b,F1c] at hco2;obtain ⟨-,rfl⟩:=hco2;obtain ⟨M',mv,S2',L2,ch2,e1,hMv,hw2,-,hmp,hch2,hu1,hL2⟩:=Hp.y0a hw1;rw [hmv] at e1;simp only [z7b,F1c] at e1;obtain ⟨rfl,rfl⟩:=e1;have hgo:=Hp.O4b hw1;rw [<- hmp] at hgo;have COL:=hZ (F1b h hw hco);have H:=hZ (RNow.refl h);have HW:=hZ hw1;have HW2:=hZ hw2;have HM:=hZ hMv;have HG:=hZ hgo;have HCH:=hZ hch2;have HU:=hZ hu1;have HL2:=hZ hL2;have PLC:=hZ (show ∀ i a,S1.taken[i]? = some a->mv a=17+Hp.wsum S1 i from fun i a ha=>by rw [hmp];exact Hp.E9b (Hp.K7a hw1.up) ha);have few:=hw1.few;have hhi:=hw1.hi;have lo:=hw1.lo;have own:=hZ h.D1a;have MB:=hZ (show ∀ b ∈ S1.taken,mv b<=100000 from fun b hb=>by have:=hgo.rng b hb;have:=hgo.top;omega);have WS:=hZ (fun j=>Hp.o4b hw1 j);obtain ⟨n,hn⟩:∃ n,S1.words.length=n:=⟨_,rfl⟩
  have EN:=hZ hn;rw [hn] at few hhi lo;obtain ⟨m,hm⟩:∃ m,S1.taken.length=m:=⟨_,rfl⟩
  have EM:=hZ hm;rw [hm] at few;clear h hw hT hco hmv hw1 hw2 hMv hgo hch2 hu1 hL2 hmp hn hm;obtain ⟨i0,hi0,hz0,hz1,hz2⟩:=info_parts (show (prog.info? 3).map (fun i=>(i.zero,i.size,i.bytes))=some (some (.int .i64 0),1,8) from by kernel_rfl);have hmk:=run_make_row' (P:=prog) 22 3 (.int .i64 0) 8 underlying22 (show (prog.info? 3).map (fun i=>(i.zero,i.size,i.bytes))=some (some (.int .i64 0),1,8) from by kernel_rfl) rfl .i64 .i64 m (by omega) (by omega);go_enter func97,ntmps97;go_upto_region 2 with (go_at_call 96;refine COL.out.mono ?_;rintro e w1 ⟨rfl,hN⟩)
  have N1:=hZ (H.out.trans hN);have c2:=N1.out.c2;rw [EN.out] at c2;have hle:=N1.out.le;have hcap:=N1.out.cap;rw [EN.out] at hle;have z1:=N1.out.toRW.lt;have z2:=N1.out.words.lt;have HCW:=hZ (show ∀ (j:Nat) (u:Value),(ints S1.words)[j]? = some u->w1.cell? ((⟨r.gb,0,none⟩:Addr).add j)=some u from fun j u hj=>by
   rw [G8c,G4c];simp only [ints,y7b,Option.map_eq_some_iff] at hj;obtain ⟨x,hx,rfl⟩:=hj;exact N1.out.words.get hx)
  clear hN COL
  go_wp2_with (at_builtin;refine Go.wpList_append_own _ rfl _ _ 22 rfl w1.heap.size 3 i0 (.int .i64 0) 1 8 underlying22 hi0 hz0 hz1 hz2 rfl (by decide) _ 0 [] rfl (A0c w1 _ _ _) ⟨r.gb,0,none⟩ n r.wc (ints S1.words) rfl ?qc1 ?qc2 ?qc3 ?qc4 ?qc5 ?qc6 ?_)
  case qc1=>simp [ints];exact EN.out
  case qc2=>exact HCW.out
  case qc3=>intro u hu;obtain ⟨x,_,rfl⟩:=F7c.1 hu;rfl
  case qc4=>unfold maxLen;omega
  case qc5=>omega
  case qc6=>omega
  intro v' w2 hown hgrow hnil;have hE2:Ext w1 w2:=((Below.refl _ w1)).grown hgrow (by simp) (by intro k hk;simp [Value.ownBlock] at hk);obtain ⟨g0,cap0,rfl,hOR⟩:∃ g0 cap0,v' = .slice (some ⟨g0,0,none⟩) n cap0/\Row w2 w1.heap.size (some ⟨g0,0,none⟩) cap0 S1.words:=by
   rcases hown.2 with ⟨rfl,hz⟩ | ⟨g,cap,cur,rfl,h1,h2⟩
   . omega
   exact ⟨g,cap,rfl,by rw [show S1.words.length=n from EN.out];exact hown,N1.out.words.wf⟩
  have OLD:=hZ hOR.at_;have G0:=hZ (⟨hOR.lt rfl,hOR.far rfl⟩:g0 < w2.heap.size/\w1.heap.size<=g0);have own1:=hZ (show ∀ b ∈ r.own,b < w1.heap.size from N1.out.toRW.D1a);have N2:=hZ (N1.out.ext hE2);have CELLS:=hZ (c2a N2.out.toRW.at_ HW.out);have ole:=OLD.out.le;have ocap:=OLD.out.cap;rw [EN.out] at ole;clear hown hgrow hnil hOR hE2 HCW c2 z1 z2 N1 hi0 hz0 hz1 hz2;go_upto_region 4 with (go_at_call 82;refine CELLS.out.mono ?_;rintro e w3 ⟨p2,c2,rfl,hR2,hE2⟩;rw [B8a,EM.out])
  have SL:=hZ hR2.at_;have F2:=hZ (show ∀ b o,p2=some ⟨b,o,none⟩->b < w3.heap.size/\w2.heap.size<=b from fun b o e=>⟨hR2.lt e,hR2.far e⟩);have G3:=hZ (show g0 < w3.heap.size from x4b G0.out.1 hE2.le);have own2:=hZ (show ∀ b ∈ r.own,b < w2.heap.size from N2.out.toRW.D1a);have OL3:=hZ (OLD.out.ext hE2);have N3:=hZ (N2.out.ext hE2);have lle:=SL.out.le;have lcap:=SL.out.cap;rw [B8a,EM.out] at lle;have own3:=hZ (show ∀ b ∈ r.own,b < w3.heap.size from N3.out.toRW.D1a);have w3le:w.heap.size<=w3.heap.size:=N3.out.but.size;clear hR2 hE2 CELLS OLD N2;go_upto_region 6 with fail
  have E4:=hZ (show Ext w3 (w3.alloc (.cells (madeCells #[.int .i64 0] m) 3)) from Ext.alloc (Ext.refl _) _);have TO:=hZ (P4a w3 m _ rfl);have F2':=hZ (show ∀ b o,p2=some ⟨b,o,none⟩->b < w3.heap.size/\b ∉ r.own from fun b o e=>⟨(F2.out b o e).1,fun hm=>by have:=own2.out b hm;have:=(F2.out b o e).2;omega⟩);have G0':=hZ (show g0 < w3.heap.size/\g0 ∉ r.own from ⟨G3.out,fun hm=>by have:=own1.out g0 hm;have:=G0.out.2;omega⟩);generalize w3.alloc (.cells (madeCells #[.int .i64 0] m) 3)=w4 at E4 TO ⊢;obtain ⟨gt,hgt⟩:∃ gt,w3.heap.size=gt:=⟨_,rfl⟩
  have EGT:=hZ hgt;rw [hgt] at TO ⊢;have zt:=TO.out.lt;clear hgt F2 G0 G3 own1 own2 hmk
  go_wp2_with fail
  go_loopg [5,7,8] m (fun g o nn i wr=>∃ (j:Nat) (p3:Option Addr) (c3:Nat),j<=m/\m-j<=g/\o = .slice p3 (Hp.E1a mv (S1.taken.take j)).length c3/\nn = .int .i64 ((17+Hp.wsum S1 j:Nat):Int)/\i = .int .i64 j/\w4.heap.size<=wr.heap.size/\Hid (Row wr w4.heap.size p3 c3 (Hp.E1a mv (S1.taken.take j)))/\Hid (A3a wr gt (Hp.toL mv S1.taken j))/\Hid (Ext w3 wr))
  case atStart=>exact ⟨0,none,0,G9c _,by omega,by simp [Hp.E1a],by simp [Hp.wsum,Hp.widths],rfl,H0c _,hZ (Row.nil _ _),hZ (by rw [Hp.Z6b,EM.out];exact TO.out),E4⟩
  case round=>
   as_aux_lemma=>
    obtain ⟨j,p3,c3,hj,hg,rfl,rfl,rfl,hsz,R,WT,BT⟩:=hrel;have pl:=Hp.k3a (m:=mv) (T:=S1.taken.take j);rw [A3c] at pl;have ws:=WS.out j;obtain ⟨PJ,hPJ⟩:∃ PJ,Hp.E1a mv (S1.taken.take j)=PJ:=⟨_,rfl⟩
    have EPJ:=hZ hPJ;rw [hPJ] at R pl ⊢;clear hPJ
    by_cases hlt:j < m
    . obtain ⟨a,ha,haj,hrd⟩:=L1a (S:=S1) (j:=j) (by rw [EM.out];exact hlt);have pa:=HW.out.part ha;have eva:=PLC.out j a haj;rw [<- eva];have ews:=Hp.R3b haj;have hmb:=MB.out a ha;have hgr:=HG.out.rng a ha;obtain ⟨lb,lo2,hlp,hl3,hlc⟩:=SL.out.cells (by rw [B8a,EM.out];omega);have gl3:=hlc j _ hrd;obtain ⟨va,hva⟩:∃ va,mv a=va:=⟨_,rfl⟩
      have tls:=Hp.l6b (m:=mv) haj;have tll:=Hp.l8b (m:=mv) (T:=S1.taken) (j:=j) (by rw [EM.out];omega);have tlg:=Hp.j2b (m:=mv) haj (Nat.lt_succ_self j);rw [hva] at eva hmb hgr tls tlg ⊢;have pj:=Hp.P4b (m:=mv) haj;rw [hva,EPJ.out] at pj;have EPS:=hZ pj;rw [EM.out] at tll;have TLG:=hZ tlg;have tk:decide ((j:Int) < (m:Int))=true:=dT;obtain ⟨x0,hx0⟩:=A4a (l:=Hp.toL mv S1.taken j) (j:=j) (by rw [tll];exact hlt);have gx:=WT.out.get hx0;have fr:=WT.out.froz j;have zt1:=WT.out.lt;have WT2:=hZ (WT.out.set (j:=j) (v:=(va:Int)) (W':=Hp.toL mv S1.taken (j+1)) (by rw [<- tls];simp [Hp.wr,tll,hlt]) (by omega) (by omega));have KB:But [gt] wr (wr.setCell ⟨gt,j,none⟩ (.int .i64 va)):=(But.refl _ _).setCell (by simp) _;have RB:=hZ (R.out.but KB (fun b hb=>by have:b=gt:=(by simpa using hb);omega));have BT2:=hZ (KB.D3a BT.out (fun b hb=>by have:b=gt:=(by simpa using hb);have:=EGT.out;omega));have SZ2:=G5c hsz KB.size;obtain ⟨wk,hwk⟩:∃ wk,Hp.wz S1.sizes (Hp.ow S1.words a)=wk:=⟨_,rfl⟩
      have LONG:Hid (∀ W,Ext w3 W->Calls prog 67 #[.pointer (some ⟨r.rb,0,none⟩),.int .i64 a] W fun e w'=>e = .returned (.int .i64 (wk:Int))/\Ext W w'):=hZ (fun W hW=>by
       have:=K0a (N3.out.toRW.at_.ext hW) HW.out.fr.toFr (a:=a) (by omega) (HW.out.cells.tags a ha);rw [hwk] at this;exact this)
      rw [hwk] at ews hgr pa;have EWZ:=hZ (show 17+Hp.wsum S1 (j+1)=va+wk by omega);have wz16:=pa.2.2.2.2;have pa2:a<=100000:=by have:=pa.2.2.1;have:=EN.out;omega
      clear hrd haj pa eva ews hva tls tll tlg hx0 KB ha pj hlc hwk;subst hlp;go_upto_region 11 with fail
      refine cutW (F:=fun W=>Hid (A3a W gt (Hp.toL mv S1.taken (j+1)))/\Hid (Ext w3 W)/\Hid (Row W w4.heap.size p3 c3 PJ)/\w4.heap.size<=W.heap.size) ⟨WT2,BT2,RB,SZ2⟩ ?_;rintro w5 ⟨WT5,BT5,R5,hsz5⟩;clear gx fr zt1 WT2 BT2 RB WT BT R hsz SZ2;have gl:=BT5.out.q gl3;have zl:=x4b hl3 BT5.out.le;have gtj:=WT5.out.get TLG.out;have zt5:=WT5.out.lt
      by_cases hne:va=a
      . have t0:((va:Int) != (a:Int))=false:=by simp;omega
        have EPS2:=hZ (show Hp.E1a mv (S1.taken.take (j+1))=PJ by rw [EPS.out];simp [hne]);clear hne
        go_wp2_with fail
        have pr74a:=Ext.r gl;have pr74b:=Ext.r gtj
        refine rg0 w5 ?_
        refine' tkd 0 ?_;refine' tkd 2 ?_;refine' tkd 4 ?_;refine' tkd 6 ?_;refine' tkL 8 ?_;refine A0a (by kernel_rfl) ?_ _;intro x1 _ Ex1;clear pr74a pr74b;have gl2:=Ex1.q gl;have E6:=hZ (BT5.out.trans Ex1)
        go_wp2_with (go_at_call 67;refine m4_ (LONG.out _ E6.out) fun w6 hb6 hc6 hf6 hs6=>?_)
        go_roundg (m-(j+1))
        case measure=>omega
        case rel=>exact ⟨j+1,p3,c3,by omega,H0c _,by rw [EPS2.out],by rw [EWZ.out];go_num,by go_num,G5c hsz5 (Ex1.trans hb6).le,hZ (by rw [EPS2.out];exact R5.out.ext (Ex1.trans hb6)),hZ (WT5.out.ext (Ex1.trans hb6)),hZ (E6.out.trans hb6)⟩
      have t0:((va:Int) != (a:Int))=true:=by simp;omega
      have EPS2:=hZ (show Hp.E1a mv (S1.taken.take (j+1))=PJ ++ [(a:Int),(va:Int)] by rw [EPS.out];simp [hne]);clear hne
      go_wp2_with fail
      have pr75a:=Ext.r gl;have pr75b:=Ext.r gtj
      refine rg0 w5 ?_
      refine' tkd 0 ?_;refine' tkd 2 ?_;refine' tkd 4 ?_;refine' tkd 6 ?_;refine' tkL 8 ?_;refine A0a (by kernel_rfl) ?_ _;intro x1 _ Ex1;clear pr75a pr75b;have gl2:=Ex1.q gl;have gt2:=Ex1.q gtj;have zl2:=x4b zl Ex1.le;have zt2:=x4b zt5 Ex1.le
      go_wp2_with fail
      refine wp_region_any (by kernel_rfl) ?_;refine' tkB 0 ?_;have pr76a:=Ext.r gl2
      have pr76b:=Ext.r gt2
      refine B3a (S:=fun W=>Ext x1 W) (R:=Ext) 9 8 Ext.refl ?_ ?_ (by rfl)
      . exact Ext.drew exx
      refine' tkY 1 ?_;refine' tkY 2 ?_;refine' tkY 3 ?_;refine' tkY 4 ?_;refine' tkY 5 ?_;refine' tkY 6 ?_;refine' tkY 7 ?_;refine' tkY 8 ?_;refine A9a (by kernel_rfl) ?_;intro xd _ Exd;clear pr76a pr76b;simp only [v0b,D9c];have E6:=hZ ((BT5.out.trans Ex1).trans Exd);have EA:Ext xd (xd.alloc (.cells #[.int .i64 (a:Int),.int .i64 (va:Int)] 3)):=Ext.alloc (Ext.refl _) _;have RA:=hZ ((R5.out.ext (Ex1.trans Exd)).ext EA);have WTA:=hZ ((WT5.out.ext (Ex1.trans Exd)).ext EA);have hszA:w4.heap.size<=(xd.alloc (.cells #[.int .i64 (a:Int),.int .i64 (va:Int)] 3)).heap.size:=G5c hsz5 ((Ex1.trans Exd).trans EA).le;have hyc:∀ j y,Hp.rd [(a:Int),(va:Int)] j=some y->(xd.alloc (.cells #[.int .i64 (a:Int),.int .i64 (va:Int)] 3)).cell? ⟨xd.heap.size,j,none⟩=some (.int .i64 y):=by
       intro j y hj
       match j,hj with
       | 0,hj=>simp [Hp.rd] at hj;subst hj;simp [go_sem]
       | 1,hj=>simp [Hp.rd] at hj;subst hj;simp [go_sem]
       | j+2,hj=>simp [Hp.rd] at hj
      have hyb:∀ y ∈ [(a:Int),(va:Int)],-9223372036854775808<=y/\y<=9223372036854775807:=by
       intro y hy
       rcases E6c.1 hy with rfl | hy
       . omega
       have:y=(va:Int):=by simpa using hy
       subst this;omega
      have hln:PJ.length + [(a:Int),(va:Int)].length < 10000000:=by simp;omega
      have HYC:=hZ hyc;have HYB:=hZ hyb;have EAH:=hZ (E6.out.trans EA);have zt4:=hZ (show gt < w4.heap.size from zt);clear hyc hyb gl2 gt2 zl2 zt2 gl zl gtj zt5 EA;go_upto_region 13 with (at_builtin;refine Z0a rfl _ _ rfl (ys:=[(a:Int),(va:Int)]) rfl rfl (by simp) RA.out HYC.out HYB.out hln hszA ?_;intro g8 c8 x8 hR8 hG8)
      obtain ⟨row,hgr,hrow⟩:=id hG8;have E8:=hZ (M0a EAH.out hgr (fun q e=>by have:=hrow q e;have:=zt4.out;have:=EGT.out;omega));have gl8:=E8.out.q gl3;have WT8:=hZ (WTA.out.F9a (hgr.block gt WTA.out.lt (fun e=>by have:=hrow gt e.symm;have:=zt4.out;omega)));have hsz8:=G5c hszA hgr.size;have R8H:=hZ hR8;clear hG8 hgr hrow hR8
      go_wp2_with (go_at_call 67;refine m4_ (LONG.out _ E8.out) fun w6 hb6 hc6 hf6 hs6=>?_)
      go_roundg (m-(j+1))
      case measure=>omega
      case rel=>exact ⟨j+1,some ⟨g8,0,none⟩,c8,by omega,H0c _,by rw [EPS2.out];simp,by rw [EWZ.out];go_num,by go_num,G5c hsz8 hb6.le,hZ (by rw [EPS2.out];exact R8H.out.ext hb6),hZ (WT8.out.ext hb6),hZ (E8.out.trans hb6)⟩
    have:j=m:=by omega
    subst this;have tk:decide ((j:Int) < (j:Int))=false:=dF;have eT:S1.taken.take j=S1.taken:=s6b (by rw [EM.out];exact H0c _);have EPJ2:=hZ (show PJ=Hp.E1a mv S1.taken by rw [<- EPJ.out,eT]);have WT2:=hZ (show A3a wr gt (S1.taken.map fun a=>((mv a:Nat):Int)) by have:=WT.out;rw [show j=S1.taken.length from EM.out.symm,Hp.o6b] at this;exact this);have ewd:=show Hp.wsum S1 j=Hp.widths (Hp.ow S1.words) S1.sizes S1.taken by unfold Hp.wsum;rw [eT]
    rw [ewd];obtain ⟨nx,hnx⟩:∃ nx,17+Hp.widths (Hp.ow S1.words) S1.sizes S1.taken=nx:=⟨_,rfl⟩
    have ENX:=hZ hnx;rw [hnx];have nxn:nx<=n:=by rw [<- hnx,<- EN.out];exact HG.out.top
    clear hnx ewd eT EPJ WT ws
    go_wp2_with fail
    obtain ⟨w5,rfl⟩:∃ w5,w5=wr:=⟨_,rfl⟩
    have z3:=N3.out.toRW.lt;have c0:=BT.out.q N3.out.c0;have c1:=BT.out.q N3.out.c1;have hmk:=run_make_row' (P:=prog) 22 3 (.int .i64 0) 8 underlying22 (show (prog.info? 3).map (fun i=>(i.zero,i.size,i.bytes))=some (some (.int .i64 0),1,8) from by kernel_rfl) rfl .i64 .i64 n (by omega) (by omega);have zz0:=cell_lt c0;have pr77a:=Ext.r c0
    have pr77b:=Ext.r c1
    refine W3a (S:=fun W=>Ext w5 W) (R:=Ext) (bl_ [10,12] 14) (by kernel_rfl) Ext.refl (fun _ _ _=>Ext.trans) (by kernel_rfl) (fun _ _ d _ _ h=>by cases d <;> exact h) (by kernel_rfl) exx ?_;intro ops hops';have hops:=hZ hops';clear hops';have ES:=hZ (Ext.drew (Ext.refl w5));generalize World.drew w5=wd at ES ⊢;refine' tkP hops ?_;refine' tkP hops ?_;refine' tkP hops ?_;refine' tkP hops ?_;refine' tkP hops ?_;refine' tkP hops ?_;refine' tkP hops ?_;refine' tkP hops ?_;refine' tkP hops ?_;refine' tkP hops ?_;refine Plan.run (fun v W=>∃ g,v = .slice (some ⟨g,0,none⟩) n n/\wd.heap.size<=g/\A3a W g (List.replicate n 0)/\Ext wd W) (by first | rfl | (rw [hops.out];rfl)) ?run10 ?vs10 ?next10
    case run10=>
     intro w' e1 _;refine .inr ⟨.slice (some ⟨w'.heap.size,0,none⟩) n n,w'.alloc (.cells (madeCells #[.int .i64 0] n) 3), ?_,w'.heap.size,rfl,e1.le,P4a w' n _ rfl,e1.trans (Ext.alloc (Ext.refl _) _)⟩;go_simp
    case vs10=>
     rintro v W ⟨g,rfl,-,-,hE⟩ W' e1;exact ES.out.trans (hE.trans e1)
    rintro v w6 ⟨gx,rfl,hgx,hWX,hE6⟩;have E6:=hZ hE6;have WX:=hZ hWX;have EGX:=hZ hgx;clear hgx hWX hE6;refine layy ?_;refine' tkP hops ?_;refine Plan.run (fun v W=>∃ b,v = .pointer (some ⟨b,0,none⟩)/\w6.heap.size<=b/\(W.cell? ⟨b,0,none⟩=some (.slice r.sp S1.sizes.length r.sc)/\W.cell? ⟨b,1,none⟩=some (.slice r.op S1.order.length r.oc)/\W.cell? ⟨b,2,none⟩=some (.slice (some ⟨gx,0,none⟩) n n)/\W.frozen? ⟨b,2,none⟩=false)/\Ext w6 W) (by first | rfl | (rw [hops.out];rfl)) ?run12 ?vs12 ?next12
    case run12=>
     intro w' e1 _;refine .inr ⟨.pointer (some ⟨w'.heap.size,0,none⟩),w'.alloc (.cells #[.slice r.sp S1.sizes.length r.sc,.slice r.op S1.order.length r.oc,.slice (some ⟨gx,0,none⟩) n n] 54), ?_,w'.heap.size,rfl,e1.le,⟨?_, ?_, ?_, ?_⟩,e1.trans (Ext.alloc (Ext.refl _) _)⟩ <;> go_simp
    case vs12=>
     rintro v W ⟨b,rfl,-,-,hE⟩ W' e1;exact hE.trans e1
    rintro v w7 ⟨xb,rfl,hxb,hX0,hE7⟩;have E7:=hZ hE7;have X0:=hZ hX0;have EXB:=hZ hxb;clear hxb hX0 hE7;refine layy ?_;refine' tkP hops ?_;refine Plan.done ?_;intro w8 e8 _;clear pr77a pr77b;have E8:=hZ e8;clear e8;have GX5:w5.heap.size<=gx:=G5c ES.out.le EGX.out;have XB5:gx < xb:=x4b WX.out.lt EXB.out;have zxb:=cell_lt X0.out.1;have E58:=hZ (ES.out.trans (E6.out.trans (E7.out.trans E8.out)))
    have NX:Hid (∃ rx:Rd,rx.rb=xb/\rx.gb=gx/\rx.wc=n/\RNow w8 w8 rx { S1 with words:=List.replicate n 0 }):=hZ ⟨⟨xb,r.sp,r.sc,r.op,r.oc,gx,0,n⟩,rfl,rfl,rfl,RNow.refl
     { c0:=E8.out.q X0.out.1
       c1:=E8.out.q X0.out.2.1
       c2:=by
        refine E8.out.q (X0.out.2.2.1.trans ?_);simp
       f2:=(E8.out.frozen zxb 2).trans X0.out.2.2.2
       sizes:=N3.out.toRW.sizes.ext (BT.out.trans E58.out)
       order:=N3.out.toRW.order.ext (BT.out.trans E58.out)
       words:=WX.out.ext (E7.out.trans E8.out)
       le:=by simp
       cap:=by show n<=_;omega
       go:=rfl
       apart:=by show xb ≠ gx;omega
       far1:=fun h0 b o e hm=>by
        obtain ⟨b',o',e',hb,_⟩:=(N3.out.toRW.sizes.ext BT.out).cells h0;have e:r.sp=some ⟨b,o,none⟩:=e;rw [e'] at e
        cases e
        simp [Rd.own] at hm;omega
       far2:=fun h0 b o e hm=>by
        obtain ⟨b',o',e',hb,_⟩:=(N3.out.toRW.order.ext BT.out).cells h0;have e:r.op=some ⟨b,o,none⟩:=e;rw [e'] at e
        cases e
        simp [Rd.own] at hm;omega }⟩
    obtain ⟨rx,rfl,rfl,hrw,hNX⟩:=NX.out;have RWC:=hZ hrw;have NX0:=hZ hNX;have XT:=hZ (show ∀ W,But rx.own w8 W->Ext w5 W from fun W k=>k.D3a E58.out (fun b hb=>by
     simp only [Rd.own,E6c,w8b,A9c,or_false] at hb;omega))
    have GO:=hZ (show ∀ k,k < n->w5.cell? ⟨g0,k,none⟩=some (.int .i64 (Hp.ow S1.words k)) from fun k hk=>by
     obtain ⟨b',o',e',hb,hc⟩:=(OL3.out.ext BT.out).cells (by rw [EN.out];omega)
     cases e'
     have:=hc k _ (Hp.F7a (by rw [EN.out];exact hk))
     rwa [G4c] at this)
    have zg0:g0 < w5.heap.size:=x4b G0'.out.1 BT.out.le;have ztg:=WT2.out.lt;clear hrw hNX NX hmk zxb
    go_wp2_with fail
    go_loopg [10] j (fun g i wr=>∃ (q:Nat) (V:List Int),q<=j/\j-q<=g/\i = .int .i64 q/\Hid (Hp.N2a S1 mv q V)/\Hid (RNow w8 wr rx { S1 with words:=V }))
    case atStart=>exact ⟨0,_,G9c _,by omega,rfl,hZ (Hp.N2a.start n EN.out),NX0⟩
    case round=>
     as_aux_lemma=>
      obtain ⟨q,V,hq,hgq,rfl,PK,NV⟩:=hrel;clear NX0;have EV:=hZ (PK.out.len.trans EN.out);have c2x:=NV.out.len EV.out;rw [RWC.out] at c2x;have z1:=NV.out.toRW.lt;have z2:=NV.out.words.lt;have EW:=hZ (XT.out _ NV.out.but)
      by_cases hlt2:q < j
      . obtain ⟨a,ha,haj,hrd⟩:=L1a (S:=S1) (j:=q) (by rw [EM.out];exact hlt2);have pa:=HW.out.part ha;rw [EN.out] at pa;have hgr:=HG.out.rng a ha;have hot:=HW.out.cells.tags a ha;have gt5:=WT2.out.get (Hp.g0b haj);obtain ⟨lb,lo2,hlp,hlb,hlc⟩:=(SL.out.ext BT.out).cells (by rw [B8a,EM.out];omega);have gl5:=hlc q _ hrd;have FI:=hZ (PK.out.into HW.out HG.out haj);have ISN:=hZ (fun W (hW:Ext w5 W)=>c7a (N3.out.toRW.at_.ext (BT.out.trans hW)) (a:=a) (by rw [EN.out];omega));obtain ⟨fl,hfl⟩:∃ fl,Hp.wz S1.sizes (Hp.ow S1.words a)-4=fl:=⟨_,rfl⟩
        have L20:=Hp.lt20 HW.out ha;have FLD:Hid (∀ W,Ext w5 W->Calls prog 88 #[.pointer (some ⟨r.rb,0,none⟩),.int .i64 a] W fun e w'=>e = .returned (.slice (some ⟨r.gb,r.go+(a+4),none⟩) fl (r.wc-(a+4)))/\Ext W w'):=hZ (fun W hW=>by
         have:=G0b (N3.out.toRW.at_.ext (BT.out.trans hW)) HW.out ha;rw [Hp.D7a,hfl] at this;exact this)
        have GF:=hZ (show ∀ k,k < fl->w5.cell? ⟨r.gb,r.go+(a+4)+k,none⟩=some (.int .i64 (Hp.ow S1.words (a+4+k))) from fun k hk=>BT.out.q (RNow.go0 (V:=S1.words) (S:=S1) (a:=a) (k:=k) (j:=a+4+k) N3.out (by rw [EN.out];omega) rfl rfl));have zgb:r.gb < w5.heap.size:=x4b N3.out.words.lt BT.out.le;obtain ⟨va,hva⟩:∃ va,mv a=va:=⟨_,rfl⟩
        rw [hva] at hgr gt5 FI;have EVA:=hZ hva;have hw4:Hp.wz S1.sizes (Hp.ow S1.words a)=fl+4:=by
         have:=pa.2.2.2;omega
        rw [hw4,ENX.out] at hgr;rw [hw4] at pa;have van:va+4+fl<=n:=by
         have:=hgr.2;omega
        have va17:=hgr.1;have an:a+4+fl<=n:=by
         have:=pa.2.2.1;omega
        have fl1:1<=fl:=by
         have:=pa.2.2.2;omega
        have fl12:fl<=12:=by
         have:=pa.2.2.2;omega
        have HA:=hZ ha;have HAJ:=hZ haj;have EFL:=hZ hfl;have B:=hZ (fun k=>N3.out.toRW.bound (j:=k));have tk:decide ((q:Int) < (j:Int))=true:=dT;obtain ⟨be,hbe⟩:∃ be,Hp.B1a (Hp.ow S1.words a)=be:=⟨_,rfl⟩
        have BE:=hZ hbe;rw [L20,hbe] at ISN;clear hva pa hgr hlc hrd ha haj hfl hot hw4 L20 hbe;subst hlp;have vn0:va < n:=by omega
        have vn1:va+1 < n:=by omega
        have vn2:va+2 < n:=by omega
        have an0:a < n:=by omega
        have an1:a+1 < n:=by omega
        have an2:a+2 < n:=by omega
        have glw:=EW.out.q gl5;go_upto_region 19 with (go_at_call 88;refine m4_ (FLD.out _ EW.out) fun w9 hb9 hc9 hf9 hs9=>?_)
        have N9:=hZ (NV.out.ext hb9);have E9:=hZ (EW.out.trans hb9);have c2y:=N9.out.len EV.out;rw [RWC.out] at c2y;clear c2x z1 z2 EW hb9 hc9 hf9 hs9 glw;obtain ⟨y1,y2,y3,y4⟩:IntKind.i64.wrap (((va:Nat):Int)+1)=((va:Nat):Int)+1/\(0:Int)<=((va:Nat):Int)+1/\((va:Nat):Int)+1 < ((n:Nat):Int)/\(((va:Nat):Int)+1).toNat=va+1:=⟨E4c _ (by omega),by omega,by omega,by omega⟩
        obtain ⟨s1,s2,s3,s4⟩:IntKind.i64.wrap (((va:Nat):Int)+2)=((va:Nat):Int)+2/\(0:Int)<=((va:Nat):Int)+2/\((va:Nat):Int)+2 < ((n:Nat):Int)/\(((va:Nat):Int)+2).toNat=va+2:=⟨E4c _ (by omega),by omega,by omega,by omega⟩
        obtain ⟨t1,t2,t3,t4⟩:IntKind.i64.wrap (((a:Nat):Int)+1)=((a:Nat):Int)+1/\(0:Int)<=((a:Nat):Int)+1/\((a:Nat):Int)+1 < ((n:Nat):Int)/\(((a:Nat):Int)+1).toNat=a+1:=⟨E4c _ (by omega),by omega,by omega,by omega⟩
        obtain ⟨u1,u2,u3,u4⟩:IntKind.i64.wrap (((a:Nat):Int)+2)=((a:Nat):Int)+2/\(0:Int)<=((a:Nat):Int)+2/\((a:Nat):Int)+2 < ((n:Nat):Int)/\(((a:Nat):Int)+2).toNat=a+2:=⟨E4c _ (by omega),by omega,by omega,by omega⟩
        refine R9a (S:=(fun W:World=>W.cell? ⟨rx.rb,2,none⟩=some (.slice (some ⟨rx.gb,0,none⟩) n n)/\Ext w5 W)) (bl_ [50,52,54] 55) (by kernel_rfl) (by kernel_rfl) (fun _ _ d _ _ h=>by cases d <;> exact h) (by kernel_rfl) (by exact ⟨c2y,Ext.drew E9.out⟩) ?_;intro ops hops';have hops:=hZ hops';clear hops';have ND:=hZ (N9.out.ext (Ext.drew (Ext.refl w9)));generalize World.drew w9=wd2 at ND ⊢;clear c2y N9 E9;refine' tkS hops ?_;refine' tkS hops ?_;refine' tkS hops ?_;refine' tkS hops ?_ (hy:=by intro w hSw;(obtain ⟨s1,s2⟩:=hSw;have f1:=s2.q gt5;have f2:=s2.q gl5;have f3:=s2.q (GO.out a (by omega));have f4:=s2.q (GO.out (a+1) (by omega));have f5:=s2.q (GO.out (a+2) (by omega)));go_simp;try with_reducible rfl);refine' tkS hops ?_;refine' tkS hops ?_;refine' tkS hops ?_;refine' tkS hops ?_ (hy:=by intro w hSw;(obtain ⟨s1,s2⟩:=hSw;have f1:=s2.q gt5;have f2:=s2.q gl5;have f3:=s2.q (GO.out a (by omega));have f4:=s2.q (GO.out (a+1) (by omega));have f5:=s2.q (GO.out (a+2) (by omega)));go_simp;try with_reducible rfl);refine' tkS hops ?_;refine' tkS hops ?_;refine' tkS hops ?_;refine' tkS hops ?_ (hy:=by intro w hSw;(obtain ⟨s1,s2⟩:=hSw;have f1:=s2.q gt5;have f2:=s2.q gl5;have f3:=s2.q (GO.out a (by omega));have f4:=s2.q (GO.out (a+1) (by omega));have f5:=s2.q (GO.out (a+2) (by omega)));go_simp;try with_reducible rfl);refine' tkS hops ?_;refine' tkS hops ?_;refine' tkS hops ?_;refine' tkS hops ?_ (hy:=by intro w hSw;(obtain ⟨s1,s2⟩:=hSw;have f1:=s2.q gt5;have f2:=s2.q gl5;have f3:=s2.q (GO.out a (by omega));have f4:=s2.q (GO.out (a+1) (by omega));have f5:=s2.q (GO.out (a+2) (by omega)));go_simp;try with_reducible rfl);refine' tkS hops ?_;refine' tkS hops ?_;refine' tkS hops ?_;refine' tkS hops ?_;refine' tkS hops ?_ (hy:=by intro w hSw;(obtain ⟨s1,s2⟩:=hSw;have f1:=s2.q gt5;have f2:=s2.q gl5;have f3:=s2.q (GO.out a (by omega));have f4:=s2.q (GO.out (a+1) (by omega));have f5:=s2.q (GO.out (a+2) (by omega)));go_simp;try with_reducible rfl);refine' tkS hops ?_;refine' tkS hops ?_;refine' tkS hops ?_;refine' tkS hops ?_ (hy:=by intro w hSw;(obtain ⟨s1,s2⟩:=hSw;have f1:=s2.q gt5;have f2:=s2.q gl5;have f3:=s2.q (GO.out a (by omega));have f4:=s2.q (GO.out (a+1) (by omega));have f5:=s2.q (GO.out (a+2) (by omega)));go_simp;try with_reducible rfl);refine' tkS hops ?_;refine' tkS hops ?_;refine' tkS hops ?_;refine' tkS hops ?_;refine' tkS hops ?_;refine' tkS hops ?_ (hy:=by intro w hSw;(obtain ⟨s1,s2⟩:=hSw;have f1:=s2.q gt5;have f2:=s2.q gl5;have f3:=s2.q (GO.out a (by omega));have f4:=s2.q (GO.out (a+1) (by omega));have f5:=s2.q (GO.out (a+2) (by omega)));go_simp;try with_reducible rfl);refine' tkS hops ?_;refine' tkS hops ?_ (hy:=by intro w hSw;(obtain ⟨s1,s2⟩:=hSw;have f1:=s2.q gt5;have f2:=s2.q gl5;have f3:=s2.q (GO.out a (by omega));have f4:=s2.q (GO.out (a+1) (by omega));have f5:=s2.q (GO.out (a+2) (by omega)));go_simp;try with_reducible rfl);refine' tkS hops ?_;refine' tkS hops ?_;refine' tkS hops ?_;refine' tkS hops ?_;refine' tkS hops ?_ (hy:=by intro w hSw;(obtain ⟨s1,s2⟩:=hSw;have f1:=s2.q gt5;have f2:=s2.q gl5;have f3:=s2.q (GO.out a (by omega));have f4:=s2.q (GO.out (a+1) (by omega));have f5:=s2.q (GO.out (a+2) (by omega)));go_simp;try with_reducible rfl);refine' tkS hops ?_;refine' tkS hops ?_;refine' tkS hops ?_ (hy:=by intro w hSw;(obtain ⟨s1,s2⟩:=hSw;have f1:=s2.q gt5;have f2:=s2.q gl5;have f3:=s2.q (GO.out a (by omega));have f4:=s2.q (GO.out (a+1) (by omega));have f5:=s2.q (GO.out (a+2) (by omega)));go_simp;try with_reducible rfl);refine' tkS hops ?_;refine' tkS hops ?_;refine' tkS hops ?_;refine' tkS hops ?_;refine' tkS hops ?_ (hy:=by intro w hSw;(obtain ⟨s1,s2⟩:=hSw;have f1:=s2.q gt5;have f2:=s2.q gl5;have f3:=s2.q (GO.out a (by omega));have f4:=s2.q (GO.out (a+1) (by omega));have f5:=s2.q (GO.out (a+2) (by omega)));go_simp;try with_reducible rfl);refine' tkS hops ?_;refine' tkS hops ?_;refine' tkS hops ?_ (hy:=by intro w hSw;(obtain ⟨s1,s2⟩:=hSw;have f1:=s2.q gt5;have f2:=s2.q gl5;have f3:=s2.q (GO.out a (by omega));have f4:=s2.q (GO.out (a+1) (by omega));have f5:=s2.q (GO.out (a+2) (by omega)));go_simp;try with_reducible rfl);refine' tkS hops ?_;have g0':=ND.out.word (j:=va) (x:=_) (by rw [EV.out];exact vn0) rfl;have fr0:=ND.out.words.froz va;have zg:=ND.out.words.lt;have NA:=hZ (ND.out.set (j:=va) (v:=Hp.ow S1.words a) (by show va < V.length;rw [EV.out];exact vn0) (B.out a (by rw [EN.out];omega)).1 (B.out a (by rw [EN.out];omega)).2);refine P2a.put (wd2.setCell ⟨rx.gb,va,none⟩ (.int .i64 (Hp.ow S1.words a))) (by first | rfl | (rw [hops.out];rfl)) ?run50 ?hS50 ?next50
        case run50=>go_simp
        case hS50=>
         have:=NA.out.len (n:=n) (by simp;exact EV.out);rw [RWC.out] at this;exact ⟨this,XT.out _ NA.out.but⟩
        refine layy ?_;generalize wd2.setCell ⟨rx.gb,va,none⟩ (.int .i64 (Hp.ow S1.words a))=we at NA ⊢;clear g0' fr0 zg ND;refine' tkS hops ?_;have g0':=NA.out.word (j:=va+1) (x:=_) (by simp;rw [EV.out];exact vn1) rfl;have fr0:=NA.out.words.froz (va+1);have zg:=NA.out.words.lt;have NB:=hZ (NA.out.set (j:=va+1) (v:=Hp.ow S1.words (a+1)) (by simp;rw [EV.out];exact vn1) (B.out (a+1) (by rw [EN.out];omega)).1 (B.out (a+1) (by rw [EN.out];omega)).2);refine P2a.put (we.setCell ⟨rx.gb,va+1,none⟩ (.int .i64 (Hp.ow S1.words (a+1)))) (by first | rfl | (rw [hops.out];rfl)) ?run52 ?hS52 ?next52
        case run52=>go_simp
        case hS52=>
         have:=NB.out.len (n:=n) (by simp;exact EV.out);rw [RWC.out] at this;exact ⟨this,XT.out _ NB.out.but⟩
        refine layy ?_;generalize we.setCell ⟨rx.gb,va+1,none⟩ (.int .i64 (Hp.ow S1.words (a+1)))=wf at NB ⊢;clear g0' fr0 zg NA;refine' tkS hops ?_;have g0':=NB.out.word (j:=va+2) (x:=_) (by simp;rw [EV.out];exact vn2) rfl;have fr0:=NB.out.words.froz (va+2);have zg:=NB.out.words.lt;have NC:=hZ (NB.out.set (j:=va+2) (v:=Hp.ow S1.words (a+2)) (by simp;rw [EV.out];exact vn2) (B.out (a+2) (by rw [EN.out];omega)).1 (B.out (a+2) (by rw [EN.out];omega)).2);refine P2a.put (wf.setCell ⟨rx.gb,va+2,none⟩ (.int .i64 (Hp.ow S1.words (a+2)))) (by first | rfl | (rw [hops.out];rfl)) ?run54 ?hS54 ?next54
        case run54=>go_simp
        case hS54=>
         have:=NC.out.len (n:=n) (by simp;exact EV.out);rw [RWC.out] at this;exact ⟨this,XT.out _ NC.out.but⟩
        refine layy ?_;generalize wf.setCell ⟨rx.gb,va+2,none⟩ (.int .i64 (Hp.ow S1.words (a+2)))=wg at NC ⊢;clear g0' fr0 zg NB;refine P2a.done ?_;clear y1 y2 y3 y4 s1 s2 s3 s4 t1 t2 t3 t4 u1 u2 u3 u4
        go_wp2_with fail
        go_loopg [12] fl (fun g s wr=>∃ (k:Nat) (V2:List Int),k<=fl/\fl-k<=g/\s = .int .i64 k/\Hid (Hp.I3a S1 mv a V k V2)/\Hid (RNow w8 wr rx { S1 with words:=V2 }))
        case atStart=>exact ⟨0,_,G9c _,by omega,rfl,FI,NC⟩
        case round=>
         as_aux_lemma=>
          obtain ⟨k,V2,hk,hgk,rfl,FL,NK⟩:=hrel;clear FI NC EV NV;have EV:=hZ (FL.out.len.trans EN.out);have EK:=hZ (XT.out _ NK.out.but)
          by_cases hlt3:k < fl
          . have tk2:decide ((k:Int) < (fl:Int))=true:=dT;have gf5:=GF.out k hlt3;have v4n:va+4 < n:=by omega
            have vkn:va+4+k < n:=by omega
            obtain ⟨y1,y2,y3,y4⟩:IntKind.i64.wrap (((va:Nat):Int)+4)=((va:Nat):Int)+4/\(0:Int)<=((va:Nat):Int)+4/\((va:Nat):Int)+4 < ((n:Nat):Int)/\(((va:Nat):Int)+4).toNat=va+4:=⟨E4c _ (by omega),by omega,by omega,by omega⟩
            obtain ⟨s1,s2,s3,s4⟩:IntKind.i64.wrap (((va:Nat):Int)+4+((k:Nat):Int))=((va:Nat):Int)+4+((k:Nat):Int)/\(0:Int)<=((va:Nat):Int)+4+((k:Nat):Int)/\((va:Nat):Int)+4+((k:Nat):Int) < ((n:Nat):Int)/\(((va:Nat):Int)+4+((k:Nat):Int)).toNat=va+4+k:=⟨E4c _ (by omega),by omega,by omega,by omega⟩
            have w4k:IntKind.i64.wrap ((va:Int)+4+(k:Int))=(va:Int)+4+(k:Int):=E4c _ (by omega)
            go_wp2_with fail
            refine wp_region_still_tail 16 (by kernel_rfl) (by kernel_rfl) ?_;change wpStill _ _ (World.drew wr) (fun a'=>wpList _ _ _ _ a' (World.drew wr)) _ _;have EDW:Ext wr (World.drew wr):=Ext.drew (Ext.refl _);have NY:=hZ (NK.out.ext EDW);generalize World.drew wr=wy at NY EDW ⊢;have f2:=NY.out.f2;have z1:=NY.out.toRW.lt;have z2:=NY.out.words.lt;have c2':=NY.out.len EV.out;rw [RWC.out] at c2';have gt':=((EK.out.trans EDW).cell ztg q).trans gt5;have gf':=((EK.out.trans EDW).cell zgb (r.go+(a+4)+k)).trans gf5;have g1:=NY.out.word (j:=va+4+k) (x:=_) (by rw [EV.out];exact vkn) rfl;have fr:=NY.out.words.froz (va+4+k);simp only [v1b,E0c,v0b,D9c]
            repeat still_step
            refine wpStill_nil ?_;have BF:=B.out (a+4+k) (by rw [EN.out];omega);have NS:=hZ (NY.out.set (j:=va+4+k) (v:=Hp.ow S1.words (a+4+k)) (by show va+4+k < V2.length;rw [EV.out];exact vkn) BF.1 BF.2);have hkw:k < Hp.wz S1.sizes (Hp.ow S1.words a)-4:=by rw [EFL.out];exact hlt3
            go_upto_region 24 with fail
            refine cutW (F:=fun W=>Hid (RNow w8 W rx { S1 with words:=V2.set (va+4+k) (Hp.ow S1.words (a+4+k)) })) NS ?_;rintro wz NZ;have EZ:=hZ (XT.out _ NZ.out.but);have glz:=EZ.out.q gl5;clear NS NY NK EK EDW
            cases be with
            | true=>
             have ST:=hZ (FL.out.step HW.out HG.out HA.out hkw);rw [EVA.out,Hp.nz_end BE.out hkw] at ST;clear y1 y2 y3 y4 s1 s2 s3 s4 w4k
             go_wp2_with (go_at_call 87;refine m4_ (ISN.out _ EZ.out) fun w10 hb10 hc10 hf10 hs10=>?_)
             go_roundg (fl-(k+1))
             case measure=>omega
             case rel=>exact ⟨k+1,_,by omega,H0c _,by go_num,hZ ST.out.2,hZ (NZ.out.ext hb10)⟩
            | false=>
             obtain ⟨b,hb,eb,enz⟩:=Hp.j1b (m:=mv) HW.out HA.out BE.out hkw;have F2:=hZ ((FL.out.fill HW.out HG.out HA.out hkw (Hp.ow S1.words (a+4+k))).2);have ST:=hZ (F2.out.step HW.out HG.out HA.out hkw);rw [EVA.out] at F2;rw [EVA.out,enz] at ST;have MBB:=MB.out b hb;have MOV:Hid (∀ W,Ext w5 W->Calls prog 151 #[.slice (some ⟨lb,lo2,none⟩) j c2,.slice (some ⟨gt,0,none⟩) j j,.int .i64 (Hp.ow S1.words (a+4+k))] W fun e w'=>e = .returned (.int .i64 (mv b:Int))/\Ext W w'):=hZ (fun W hW=>by
              obtain ⟨ix,hix,eix⟩:=u9b hb;have hix':S1.taken[ix]? = some b:=by rw [r1b hix,eix]
              have hnd:=Hp.K7a HW.out.up;have hcr:=U2b hix';have:=j8b (SL.out.ext (BT.out.trans hW)) ((WT2.out.ext hW).slice (c:=j) (by rw [C6c];exact Nat.le_of_eq EM.out) (by omega)) (by rw [C6c,B8a]) (k:=ix) hcr (fun i hi e=>v2a hnd hix' i hi e) (Hp.g0b hix');rw [B8a,C6c,EM.out] at this;rw [eb];exact this)
             obtain ⟨vb,hvb⟩:∃ vb,mv b=vb:=⟨_,rfl⟩
             rw [hvb] at MOV ST MBB;clear hvb hb eb enz;go_upto_region 25 with (go_at_call 87;refine m4_ (ISN.out _ EZ.out) fun w10 hb10 hc10 hf10 hs10=>?_)
             have NQ:=hZ (NZ.out.ext hb10);have EQ:=hZ (EZ.out.trans hb10);have EV3:=hZ (show (V2.set (va+4+k) (Hp.ow S1.words (a+4+k))).length=n by simp;exact EV.out);have c2q:=NQ.out.len EV3.out;rw [RWC.out] at c2q;have zq1:=NQ.out.toRW.lt;clear hb10 hc10 hf10 hs10 EZ NZ glz;refine wp_region_any (by kernel_rfl) ?_;have pr78a:=Ext.r c2q
             have pr78b:=fun u_ (h_:Ext w10 u_)=>((EQ.out.trans h_).cell ztg q).trans gt5
             have pr78c:=fun u_ (h_:Ext w10 u_)=>((EQ.out.trans h_).cell zgb (r.go+(a+4)+k)).trans gf5
             refine B3a (S:=fun W=>Ext w10 W) (R:=Ext) 18 18 Ext.refl ?_ ?_ (by rfl)
             . exact Ext.drew exx
             refine' tkY 0 ?_;refine' tkY 1 ?_;refine' tkY 2 ?_;refine' tkY 3 ?_;refine' tkY 4 ?_;refine' tkY 5 ?_;refine' tkY 6 ?_;refine' tkY 7 ?_;refine' tkY 8 ?_;refine' tkY 9 ?_;refine' tkY 10 ?_;refine' tkY 11 ?_;refine' tkY 12 ?_;refine' tkY 13 ?_;refine' tkY 14 ?_;refine' tkY 15 ?_;refine' tkY 16 ?_;refine' tkX 17 (v:=.int .i64 (vb:Int)) rfl (Or.inr ⟨by rfl,151,_, ?hx17_2032, ?hy17_2032⟩) ?rest17_2032
             case hx17_2032=>(intro w hSw;go_simp;try with_reducible rfl)
             case hy17_2032=>exact fun w hE=>(MOV.out _ (EQ.out.trans hE)).mono (fun _ _ h=>⟨h.1,h.2,Ext.trans hE h.2⟩)
             refine layy ?_;refine A9a (by kernel_rfl) ?_;intro wv _ Ewv;clear pr78a pr78b pr78c;simp only [v0b,D9c];have NW:=hZ (NQ.out.ext Ewv);have c2w:=NW.out.len EV3.out;rw [RWC.out] at c2w;have g1:=NW.out.word (j:=va+4+k) (x:=_) (by rw [EV3.out];exact vkn) rfl;have fr:=NW.out.words.froz (va+4+k);have zw:=NW.out.words.lt;have N11:=hZ (NW.out.set (j:=va+4+k) (v:=(vb:Int)) (by show va+4+k < (V2.set (va+4+k) (Hp.ow S1.words (a+4+k))).length;rw [EV3.out];exact vkn) (by omega) (by omega))
             go_wp2_with fail
             go_roundg (fl-(k+1))
             case measure=>omega
             case rel=>exact ⟨k+1,_,by omega,H0c _,by go_num,hZ ST.out.2,N11⟩
          have:k=fl:=by omega
          subst this;have tk2:decide ((k:Int) < (k:Int))=false:=dF;have FF:Hp.I3a S1 mv a V (Hp.wz S1.sizes (Hp.ow S1.words a)-4) V2:=by rw [EFL.out];exact FL.out
          have CU:=FF.cut;obtain ⟨c,hc⟩:∃ c,Hp.cz (Hp.ow S1.words a) (Hp.nz (Hp.ow S1.words) S1.sizes mv a)=c:=⟨_,rfl⟩
          have c16:=Hp.P0a (Hp.ow S1.words a) (Hp.nz (Hp.ow S1.words) S1.sizes mv a);rw [hc] at c16;have FD:=hZ (Hp.I3a.done HW.out HG.out PK.out HAJ.out FF hc);have CHK:Hp.chain (Hp.ow S1.words a) (Hp.nz (Hp.ow S1.words) S1.sizes mv a)=some c:=by
           have:=HW2.out.H0b (a:=mv a) (by rw [HM.out.taken];exact F7c.2 ⟨a,HA.out,rfl⟩);rw [HM.out.tag a HA.out,HM.out.sizes,HM.out.fs a HA.out,hc] at this;exact this
          have V0W:=FF.three.1;rw [EFL.out,EVA.out] at CU;rw [EVA.out] at FD V0W;rw [<- CU] at CHK;have CHN:Hid (∀ W,Ext wr W->Calls prog 137 #[.int .i64 (Hp.ow S1.words a),.slice (some ⟨rx.gb,va+4,none⟩) k (n-(va+4))] W fun e w'=>e = .returned (.int .i64 (c:Int))/\Ext W w'):=hZ (fun W hW=>by
           have:=g5b ((NK.out.ext hW).words.sub (c:=n) (i:=va+4) (n:=k) (by show _<=V2.length;rw [EV.out];omega) (by show V2.length<=n;rw [EV.out];exact H0c _) (by omega)) CHK;rw [Hp.E2a] at this;exact this)
          have z1k:=NK.out.toRW.lt;have z2k:=NK.out.words.lt;have c2k:=NK.out.len EV.out;rw [RWC.out] at c2k;have gvk:=NK.out.word (j:=va) (by rw [EV.out];omega) V0W;have w4:IntKind.i64.wrap ((va:Int)+4)=(va:Int)+4:=E4c _ (by omega);have w4k:IntKind.i64.wrap ((va:Int)+4+(k:Int))=(va:Int)+4+(k:Int):=E4c _ (by omega);have s3:(0:Int)<=(va:Int)+4:=by omega
          have s4:(va:Int)+4<=(va:Int)+4+(k:Int):=by omega
          have s5:(va:Int)+4+(k:Int)<=(n:Int):=by omega
          have s6:((va:Int)+4).toNat=va+4:=by omega
          have s7:((va:Int)+4+(k:Int)).toNat=va+4+k:=by omega
          have s8:va+4+k-(va+4)=k:=by omega
          have cne:¬ n=va+4:=by omega
          clear CHK CU FF FL hc
          go_wp2_with fail
          have pr79a:=Ext.r c2k
          have pr79b:=fun u_ (h_:Ext wr u_)=>((EK.out.trans h_).cell ztg q).trans gt5
          have pr79c:=Ext.r gvk
          refine rg0 wr ?_
          refine' tkd 0 ?_;refine' tkd 2 ?_;refine' tkd 4 ?_;refine' tkd 6 ?_;refine' tkd 8 ?_;refine' tkd 10 ?_;refine' tkd 12 ?_;refine' tkd 14 ?_;refine' tkd 16 ?_;refine' tkd 18 ?_;refine' tkd 20 ?_;refine' tkd 22 ?_;refine' tkd 24 ?_;refine' tkd 26 ?_;refine' tkR 28 (v:=.int .i64 c) rfl (Or.inr ⟨by rfl,137,_, ?hx28_2061, ?hy28_2061⟩) ?rest28_2061
          case hx28_2061=>(intro w hSw;go_simp;try with_reducible rfl)
          case hy28_2061=>exact fun w hE=>(CHN.out _ hE).mono (fun _ _ h=>⟨h.1,h.2,Ext.trans hE h.2⟩)
          refine layy ?_;refine' tkL 29 ?_;refine A0a (by kernel_rfl) ?_ _;intro x1 _ Ex1;clear pr79a pr79b pr79c;have N1:=hZ (NK.out.ext Ex1);have E1:=hZ (EK.out.trans Ex1);clear w4 w4k s3 s4 s5 s6 s7 s8 cne c2k gvk z1k z2k NK EK CHN;have v3n:va+3 < n:=by omega
          have cn:c < n:=by omega
          obtain ⟨y1,y2,y3,y4⟩:IntKind.i64.wrap (((va:Nat):Int)+3)=((va:Nat):Int)+3/\(0:Int)<=((va:Nat):Int)+3/\((va:Nat):Int)+3 < ((n:Nat):Int)/\(((va:Nat):Int)+3).toNat=va+3:=⟨E4c _ (by omega),by omega,by omega,by omega⟩
          go_wp2_with fail
          refine wp_region_still_tail 17 (by kernel_rfl) (by kernel_rfl) ?_;change wpStill _ _ (World.drew x1) (fun a'=>wpList _ _ _ _ a' (World.drew x1)) _ _;have EDW:Ext x1 (World.drew x1):=Ext.drew (Ext.refl _);have NY:=hZ (N1.out.ext EDW);generalize World.drew x1=wy at NY EDW ⊢;have f2:=NY.out.f2;have z1:=NY.out.toRW.lt;have z2:=NY.out.words.lt;have c2':=NY.out.len EV.out;rw [RWC.out] at c2';have gt':=((E1.out.trans EDW).cell ztg q).trans gt5;have gc:=NY.out.word (j:=c) (x:=_) (by rw [EV.out];exact cn) rfl;have g1:=NY.out.word (j:=va+3) (x:=_) (by rw [EV.out];exact v3n) rfl;have fr:=NY.out.words.froz (va+3);simp only [v1b,E0c,v0b,D9c]
          repeat still_step
          refine wpStill_nil ?_;have BC:=NY.out.toRW.bound (j:=c) (by show c < V2.length;rw [EV.out];exact cn);have NS:=hZ (NY.out.set (j:=va+3) (v:=Hp.ow V2 c) (by show va+3 < V2.length;rw [EV.out];exact v3n) BC.1 BC.2);go_upto_region 28 with fail
          refine cutW (F:=fun W=>Hid (RNow w8 W rx { S1 with words:=V2.set (va+3) (Hp.ow V2 c) })) NS ?_;rintro wz NZ;have EZ:=hZ (XT.out _ NZ.out.but);have EV3:=hZ (show (V2.set (va+3) (Hp.ow V2 c)).length=n by simp;exact EV.out);clear NS NY N1 E1 EDW y1 y2 y3 y4 BC gc g1 fr;refine wp_region_still_tail 10 (by kernel_rfl) (by kernel_rfl) ?_;change wpStill _ _ (World.drew wz) (fun a'=>wpList _ _ _ _ a' (World.drew wz)) _ _;have EDW:Ext wz (World.drew wz):=Ext.drew (Ext.refl _);have NY:=hZ (NZ.out.ext EDW);generalize World.drew wz=wy at NY EDW ⊢;have f2:=NY.out.f2;have z1:=NY.out.toRW.lt;have z2:=NY.out.words.lt;have c2':=NY.out.len EV3.out;rw [RWC.out] at c2';have gt':=((EZ.out.trans EDW).cell ztg q).trans gt5;have g1:=NY.out.word (j:=c) (x:=_) (by rw [EV3.out];exact cn) rfl;have fr:=NY.out.words.froz c;simp only [v1b,E0c,v0b,D9c]
          repeat still_step
          refine wpStill_nil ?_;have N12:=hZ (NY.out.set (j:=c) (v:=(va:Int)) (by show c < (V2.set (va+3) (Hp.ow V2 c)).length;rw [EV3.out];exact cn) (by omega) (by omega))
          go_wp2_with fail
          go_roundg (j-(q+1))
          case measure=>omega
          case rel=>exact ⟨q+1,_,by omega,H0c _,by go_num,hZ FD.out.2.2.2,N12⟩
      have:q=j:=by omega
      subst this;have tk2:decide ((q:Int) < (q:Int))=false:=dF;have NEAR:=hZ (Hp.N2a.near HW.out HG.out HM.out HW2.out HCH.out HU.out HL2.out (V:=V) (by rw [EM.out];exact PK.out));rw [ENX.out,EN.out] at NEAR
      have REST:=hZ (show ∀ (wz:World) (V':List Int),RNow w8 wz rx { S1 with words:=V' } -> V'.length=n->Hp.Near L2 V' S2.words ->
          (World.cell? wz ⟨r.rb,2,none⟩=some (.slice (some ⟨r.gb,0,none⟩) n r.wc)/\World.frozen? wz ⟨r.rb,2,none⟩=false/\r.rb < wz.heap.size) /\
          Calls prog 152 #[.pointer (some ⟨r.rb,0,none⟩)] (wz.setCell ⟨r.rb,2,none⟩ (.slice (some ⟨rx.gb,0,none⟩) n n)) (fun e w'=>e = .returned (.tuple #[])/\g3b w r S1 S2 M (.returned (.slice p3 PJ.length c3)) w') from fun wz V' NZ hV near=>by
        have EZ:=XT.out _ NZ.but;have N3Z:=N3.out.ext (BT.out.trans EZ);have hs3:w3.heap.size<=rx.gb:=G5c BT.out.le GX5;have HH:=RW.hand (S2:=S2) N3.out.toRW (BT.out.trans EZ) NZ.toRW hs3 hV hhi HM.out.sizes HM.out.order;refine ⟨⟨by have:=N3Z.len (V:=S1.words) (n:=n) EN.out;exact this,N3Z.f2,N3Z.lt⟩, ?_⟩;refine (n9b HH HW2.out near).mono ?_;rintro e w' ⟨rfl,hN⟩;have hl2:S2.words.length=n:=by rw [HM.out.len];exact EN.out
        have RZ:=R.out.ext EZ;have KB:But [r.rb] wz (wz.setCell ⟨r.rb,2,none⟩ (.slice (some ⟨rx.gb,0,none⟩) n n)):=(But.refl _ _).setCell (by simp) _;have rbs:r.rb < w.heap.size:=own.out r.rb r.S8a;have hb4:w3.heap.size<=w4.heap.size:=E4.out.le;have RK:=RZ.but_ KB (fun b o e=>by
         have:=RZ.far e;simp;omega)
        refine ⟨rfl,mv,p3,c3,w4.heap.size,rx.gb,by rw [EPJ2.out],by omega, ?_,by omega, ?_, ?_,HM.out⟩
        . rw [<- EPJ2.out];refine RK.but_ hN.but (fun b o e hm=>?_);have h1:=R.out.lt e;have h2:=RZ.far e;simp only [Rd.own,E6c,A9c,or_false] at hm
          rcases hm with hm | hm <;> omega
        . rw [hl2];exact hN.toRW
        . refine (N3Z.but.widen KB (fun x hx=>?_)).widen hN.but (fun x hx=>?_)
          . have:x=r.rb:=by simpa using hx
            subst this;exact .inl r.S8a
          . simp only [Rd.own,E6c,A9c,or_false] at hx
            rcases hx with rfl | rfl
            . exact .inl r.S8a
            . exact .inr (by omega))
      clear R HM HG HCH HU HL2 PLC MB WS SL OL3 GO
      by_cases hfree:nx < n
      . have t3:decide ((nx:Int) < (n:Int))=true:=dT;obtain ⟨hx1,hnear⟩:=NEAR.out.1 hfree;have x1n:nx+1 < n:=by
         rw [EV.out] at hx1;exact hx1
        have HN:=hZ hnear;have wsub:IntKind.i64.wrap ((n:Int)-(nx:Int))=(n:Int)-(nx:Int):=E4c _ (by omega);obtain ⟨y1,y2,y3,y4⟩:IntKind.i64.wrap (((nx:Nat):Int)+1)=((nx:Nat):Int)+1/\(0:Int)<=((nx:Nat):Int)+1/\((nx:Nat):Int)+1 < ((n:Nat):Int)/\(((nx:Nat):Int)+1).toNat=nx+1:=⟨E4c _ (by omega),by omega,by omega,by omega⟩
        clear hx1 hnear NEAR
        go_wp2_with fail
        trace_state
        refine wp_region_still_tail 14 (by kernel_rfl) (by kernel_rfl) ?_;change wpStill _ _ (World.drew wr) (fun a'=>wpList _ _ _ _ a' (World.drew wr)) _ _;have EDW:Ext wr (World.drew wr):=Ext.drew (Ext.refl _);have NY:=hZ (NV.out.ext EDW);generalize World.drew wr=wy at NY EDW ⊢;have f2:=NY.out.f2;have z1:=NY.out.toRW.lt;have z2:=NY.out.words.lt;have c2':=NY.out.len EV.out;rw [RWC.out] at c2';have g1:=NY.out.word (j:=nx+1) (x:=_) (by rw [EV.out];exact x1n) rfl;have fr:=NY.out.words.froz (nx+1);simp only [v1b,E0c,v0b,D9c]
        repeat still_step
        refine wpStill_nil ?_;have NS:=hZ (NY.out.set (j:=nx+1) (v:=(n:Int)-(nx:Int)) (by show nx+1 < V.length;rw [EV.out];exact x1n) (by omega) (by omega));go_upto_region 31 with fail
        refine cutW (F:=fun W=>Hid (RNow w8 W rx { S1 with words:=V.set (nx+1) ((n:Int)-(nx:Int)) })) NS ?_;rintro wz NZ;clear NS NY EDW y1 y2 y3 y4 wsub;obtain ⟨⟨cz2,cf2,cz1⟩,LKC⟩:=REST.out wz _ NZ.out (by simp;exact EV.out) HN.out;have LK:=hZ LKC;have c2z:=NZ.out.len (n:=n) (by simp;exact EV.out);rw [RWC.out] at c2z;clear LKC
        go_wp2_with (go_at_call 152;refine LK.out.mono ?_;rintro e w9 ⟨rfl,hpost⟩)
        go_returns;exact hpost
      have t3:decide ((nx:Int) < (n:Int))=false:=dF;have HN:=hZ (NEAR.out.2 hfree);obtain ⟨⟨cz2,cf2,cz1⟩,LKC⟩:=REST.out wr _ NV.out EV.out HN.out;have LK:=hZ LKC;clear LKC NEAR
      go_wp2_with (go_at_call 152;refine LK.out.mono ?_;rintro e w9 ⟨rfl,hpost⟩)
      go_returns;exact hpost
end Go.Proofs.YtdokmmhjmclmnaaGreat
