/-
  Part 28 of a proof: RP12 RP16 RP17.
-/
import Derived.Test.YtdokmmhjmclmnaaGreatMS10
import Derived.Test.YtdokmmhjmclmnaaGreatMS25
import Derived.Test.YtdokmmhjmclmnaaGreatMS26
import Derived.Test.YtdokmmhjmclmnaaGreatMS27
set_option linter.unusedSimpArgs false
set_option linter.unusedVariables false
set_option linter.unusedSectionVars false
set_option linter.unnecessarySimpa false
namespace Go.Proofs.YtdokmmhjmclmnaaGreat
variable {W' w w' w0:World} {B a b base c ca cap f g i j k k1 k2 lb n oc qc sb sc:Nat} {choice e t x:Int} {A V W fs l o z:List Int} {D T Y:List Nat} {op p p1 p2 pa q sp:Option Addr} {d:Hd} {S S':Hp.Hs} {r:Rd} {L:List Hp.Tl} {M:List (Nat × Int)} {s s' s1:Hp.Sc} {acts:List Hp.Act'} {c0 c1:Value}
open Go.RowKit Go.Maps
set_option maxRecDepth 100000 in
set_option maxHeartbeats 16000000 in
theorem rCompact {S1 S2:Hp.Hs} {k0:Nat} {ch:Nat->List Nat} (h:RW w r S) (hw:Hp.Wf S B L ch) (hco:S.collect=some (k0,S1)) (hmv:S1.moved=some (M,S2)) :
    Calls Tryz.prog 97 #[.pointer (some ⟨r.rb,0,none⟩)] w (RCPost w r S1 S2 M):=by
  obtain ⟨T,hT⟩:=Hp.live_total hw;obtain ⟨S1',L1,hco2,-,hw1⟩:=Hp.collect_wf hw hT;rw [hco] at hco2;simp only [Option.some.injEq,Prod.mk.injEq] at hco2;obtain ⟨-,rfl⟩:=hco2;obtain ⟨M',mv,S2',L2,ch2,e1,hMv,hw2,-,hmp,hch2,hu1,hL2⟩:=Hp.moved_all hw1;rw [hmv] at e1;simp only [Option.some.injEq,Prod.mk.injEq] at e1;obtain ⟨rfl,rfl⟩:=e1;have hgo:=Hp.goes_place hw1;rw [<- hmp] at hgo;have COL:=hZ (rCollect h hw hco);have H:=hZ (RNow.refl h);have HW:=hZ hw1;have HW2:=hZ hw2;have HM:=hZ hMv;have HG:=hZ hgo;have HCH:=hZ hch2;have HU:=hZ hu1;have HL2:=hZ hL2;have PLC:=hZ (show ∀ i a,S1.taken[i]? = some a->mv a=17+Hp.wsum S1 i from fun i a ha=>by rw [hmp];exact Hp.place_at (Hp.up_nodup hw1.up) ha);have few:=hw1.few;have hhi:=hw1.hi;have lo:=hw1.lo;have own:=hZ h.own_lt;have MB:=hZ (show ∀ b ∈ S1.taken,mv b<=100000 from fun b hb=>by have:=hgo.rng b hb;have:=hgo.top;omega);have WS:=hZ (fun j=>Hp.wsum_le hw1 j);obtain ⟨n,hn⟩:∃ n,S1.words.length=n:=⟨_,rfl⟩
  have EN:=hZ hn;rw [hn] at few hhi lo;obtain ⟨m,hm⟩:∃ m,S1.taken.length=m:=⟨_,rfl⟩
  have EM:=hZ hm;rw [hm] at few;clear h hw hT hco hmv hw1 hw2 hMv hgo hch2 hu1 hL2 hmp hn hm;obtain ⟨i0,hi0,hz0,hz1,hz2⟩:=info_parts (show (Tryz.prog.info? 3).map (fun i=>(i.zero,i.size,i.bytes))=some (some (.int .i64 0),1,8) from by kernel_rfl);have hmk:=run_make_row' (P:=Tryz.prog) 22 3 (.int .i64 0) 8 Tryz.underlying22 (show (Tryz.prog.info? 3).map (fun i=>(i.zero,i.size,i.bytes))=some (some (.int .i64 0),1,8) from by kernel_rfl) rfl .i64 .i64 m (by omega) (by omega);go_enter Tryz.func97,Tryz.ntmps97;go_upto_region 2 with (go_at_call 96;refine COL.out.mono ?_;rintro e w1 ⟨rfl,hN⟩)
  have N1:=hZ (H.out.trans hN);have c2:=N1.out.c2;rw [EN.out] at c2;have hle:=N1.out.le;have hcap:=N1.out.cap;rw [EN.out] at hle;have z1:=N1.out.toRW.lt;have z2:=N1.out.words.lt;have HCW:=hZ (show ∀ (j:Nat) (u:Value),(ints S1.words)[j]? = some u->w1.cell? ((⟨r.gb,0,none⟩:Addr).add j)=some u from fun j u hj=>by
   rw [Addr.add_lit,Nat.zero_add];simp only [ints,List.getElem?_map,Option.map_eq_some_iff] at hj;obtain ⟨x,hx,rfl⟩:=hj;exact N1.out.words.get hx)
  clear hN COL
  go_wp2_with (at_builtin;refine Go.wpList_append_own _ rfl _ _ 22 rfl w1.heap.size 3 i0 (.int .i64 0) 1 8 Tryz.underlying22 hi0 hz0 hz1 hz2 rfl (by decide) _ 0 [] rfl (World.ownsRow_nil w1 _ _ _) ⟨r.gb,0,none⟩ n r.wc (ints S1.words) rfl ?qc1 ?qc2 ?qc3 ?qc4 ?qc5 ?qc6 ?_)
  case qc1=>simp [ints];exact EN.out
  case qc2=>exact HCW.out
  case qc3=>intro u hu;obtain ⟨x,_,rfl⟩:=List.mem_map.1 hu;rfl
  case qc4=>unfold maxLen;omega
  case qc5=>omega
  case qc6=>omega
  intro v' w2 hown hgrow hnil;have hE2:Ext w1 w2:=((Below.refl _ w1)).grown hgrow (by simp) (by intro k hk;simp [Value.ownBlock] at hk);obtain ⟨g0,cap0,rfl,hOR⟩:∃ g0 cap0,v' = .slice (some ⟨g0,0,none⟩) n cap0/\Row w2 w1.heap.size (some ⟨g0,0,none⟩) cap0 S1.words:=by
   rcases hown.2 with ⟨rfl,hz⟩ | ⟨g,cap,cur,rfl,h1,h2⟩
   . omega
   exact ⟨g,cap,rfl,by rw [show S1.words.length=n from EN.out];exact hown,N1.out.words.wf⟩
  have OLD:=hZ hOR.at_;have G0:=hZ (⟨hOR.lt rfl,hOR.far rfl⟩:g0 < w2.heap.size/\w1.heap.size<=g0);have own1:=hZ (show ∀ b ∈ r.own,b < w1.heap.size from N1.out.toRW.own_lt);have N2:=hZ (N1.out.ext hE2);have CELLS:=hZ (rCells_ N2.out.toRW.at_ HW.out);have ole:=OLD.out.le;have ocap:=OLD.out.cap;rw [EN.out] at ole;clear hown hgrow hnil hOR hE2 HCW c2 z1 z2 N1 hi0 hz0 hz1 hz2;go_upto_region 4 with (go_at_call 82;refine CELLS.out.mono ?_;rintro e w3 ⟨p2,c2,rfl,hR2,hE2⟩;rw [cellsI_len,EM.out])
  have SL:=hZ hR2.at_;have F2:=hZ (show ∀ b o,p2=some ⟨b,o,none⟩->b < w3.heap.size/\w2.heap.size<=b from fun b o e=>⟨hR2.lt e,hR2.far e⟩);have G3:=hZ (show g0 < w3.heap.size from Nat.lt_of_lt_of_le G0.out.1 hE2.le);have own2:=hZ (show ∀ b ∈ r.own,b < w2.heap.size from N2.out.toRW.own_lt);have OL3:=hZ (OLD.out.ext hE2);have N3:=hZ (N2.out.ext hE2);have lle:=SL.out.le;have lcap:=SL.out.cap;rw [cellsI_len,EM.out] at lle;have own3:=hZ (show ∀ b ∈ r.own,b < w3.heap.size from N3.out.toRW.own_lt);have w3le:w.heap.size<=w3.heap.size:=N3.out.but.size;clear hR2 hE2 CELLS OLD N2;go_upto_region 6 with fail
  have E4:=hZ (show Ext w3 (w3.alloc (.cells (madeCells #[.int .i64 0] m) 3)) from Ext.alloc (Ext.refl _) _);have TO:=hZ (made_at w3 m _ rfl);have F2':=hZ (show ∀ b o,p2=some ⟨b,o,none⟩->b < w3.heap.size/\b ∉ r.own from fun b o e=>⟨(F2.out b o e).1,fun hm=>by have:=own2.out b hm;have:=(F2.out b o e).2;omega⟩);have G0':=hZ (show g0 < w3.heap.size/\g0 ∉ r.own from ⟨G3.out,fun hm=>by have:=own1.out g0 hm;have:=G0.out.2;omega⟩);generalize w3.alloc (.cells (madeCells #[.int .i64 0] m) 3)=w4 at E4 TO ⊢;obtain ⟨gt,hgt⟩:∃ gt,w3.heap.size=gt:=⟨_,rfl⟩
  have EGT:=hZ hgt;rw [hgt] at TO ⊢;have zt:=TO.out.lt;clear hgt F2 G0 G3 own1 own2 hmk
  go_wp2_with fail
  go_loopg [5,7,8] m (fun g o nn i wr=>∃ (j:Nat) (p3:Option Addr) (c3:Nat),j<=m/\m-j<=g/\o = .slice p3 (Hp.pairsOf mv (S1.taken.take j)).length c3/\nn = .int .i64 ((17+Hp.wsum S1 j:Nat):Int)/\i = .int .i64 j/\w4.heap.size<=wr.heap.size/\Hid (Row wr w4.heap.size p3 c3 (Hp.pairsOf mv (S1.taken.take j)))/\Hid (WordsAt wr gt (Hp.toL mv S1.taken j))/\Hid (Ext w3 wr))
  case atStart=>exact ⟨0,none,0,Nat.zero_le _,by omega,by simp [Hp.pairsOf],by simp [Hp.wsum,Hp.widths],rfl,Nat.le_refl _,hZ (Row.nil _ _),hZ (by rw [Hp.toL_zero,EM.out];exact TO.out),E4⟩
  case round=>
   obtain ⟨j,p3,c3,hj,hg,rfl,rfl,rfl,hsz,R,WT,BT⟩:=hrel;have pl:=Hp.pairs_len (m:=mv) (T:=S1.taken.take j);rw [List.length_take] at pl;have ws:=WS.out j;obtain ⟨PJ,hPJ⟩:∃ PJ,Hp.pairsOf mv (S1.taken.take j)=PJ:=⟨_,rfl⟩
   have EPJ:=hZ hPJ;rw [hPJ] at R pl ⊢;clear hPJ
   by_cases hlt:j < m
   . obtain ⟨a,ha,haj,hrd⟩:=cellsI_rd (S:=S1) (j:=j) (by rw [EM.out];exact hlt);have pa:=HW.out.part ha;have eva:=PLC.out j a haj;rw [<- eva];have ews:=Hp.wsum_succ haj;have hmb:=MB.out a ha;have hgr:=HG.out.rng a ha;obtain ⟨lb,lo2,hlp,hl3,hlc⟩:=SL.out.cells (by rw [cellsI_len,EM.out];omega);have gl3:=hlc j _ hrd;obtain ⟨va,hva⟩:∃ va,mv a=va:=⟨_,rfl⟩
     have tls:=Hp.toL_set (m:=mv) haj;have tll:=Hp.toL_len (m:=mv) (T:=S1.taken) (j:=j) (by rw [EM.out];omega);have tlg:=Hp.toL_get (m:=mv) haj (Nat.lt_succ_self j);rw [hva] at eva hmb hgr tls tlg ⊢;have pj:=Hp.pairs_succ (m:=mv) haj;rw [hva,EPJ.out] at pj;have EPS:=hZ pj;rw [EM.out] at tll;have TLG:=hZ tlg;have tk:decide ((j:Int) < (m:Int))=true:=dT;obtain ⟨x0,hx0⟩:=rd_get (l:=Hp.toL mv S1.taken j) (j:=j) (by rw [tll];exact hlt);have gx:=WT.out.get hx0;have fr:=WT.out.froz j;have zt1:=WT.out.lt;have WT2:=hZ (WT.out.set (j:=j) (v:=(va:Int)) (W':=Hp.toL mv S1.taken (j+1)) (by rw [<- tls];simp [Hp.wr,tll,hlt]) (by omega) (by omega));have KB:But [gt] wr (wr.setCell ⟨gt,j,none⟩ (.int .i64 va)):=(But.refl _ _).setCell (by simp) _
     have RB := Lib.hid (R.out.but KB (fun b hb => by have : b = gt := by simpa using hb
                                                      omega))
     have BT2 := Lib.hid (KB.toExt BT.out (fun b hb => by have : b = gt := by simpa using hb
                                                          have:=EGT.out;omega))
     have SZ2:=Nat.le_trans hsz KB.size;obtain ⟨wk,hwk⟩:∃ wk,Hp.wz S1.sizes (Hp.ow S1.words a)=wk:=⟨_,rfl⟩
     have LONG:Hid (∀ W,Ext w3 W->Calls Tryz.prog 67 #[.pointer (some ⟨r.rb,0,none⟩),.int .i64 a] W fun e w'=>e = .returned (.int .i64 (wk:Int))/\Ext W w'):=hZ (fun W hW=>by
      have:=rLong_cell (N3.out.toRW.at_.ext hW) HW.out.fr.toFr (a:=a) (by omega) (HW.out.cells.tags a ha);rw [hwk] at this;exact this)
     rw [hwk] at ews hgr pa;have EWZ:=hZ (show 17+Hp.wsum S1 (j+1)=va+wk by omega);have wz16:=pa.2.2.2.2;have pa2:a<=100000:=by have:=pa.2.2.1;have:=EN.out;omega
     clear hrd haj pa eva ews hva tls tll tlg hx0 KB ha pj hlc hwk;subst hlp;go_upto_region 11 with fail
     refine cutW (F:=fun W=>Hid (WordsAt W gt (Hp.toL mv S1.taken (j+1)))/\Hid (Ext w3 W)/\Hid (Row W w4.heap.size p3 c3 PJ)/\w4.heap.size<=W.heap.size) ⟨WT2,BT2,RB,SZ2⟩ ?_;rintro w5 ⟨WT5,BT5,R5,hsz5⟩;clear gx fr zt1 WT2 BT2 RB WT BT R hsz SZ2;have gl:=(BT5.out.cell hl3 (lo2+j)).trans gl3;have zl:=Nat.lt_of_lt_of_le hl3 BT5.out.le;have gtj:=WT5.out.get TLG.out;have zt5:=WT5.out.lt
     by_cases hne:va=a
     . have t0:((va:Int) != (a:Int))=false:=by simp;omega
       have EPS2:=hZ (show Hp.pairsOf mv (S1.taken.take (j+1))=PJ by rw [EPS.out];simp [hne]);clear hne
       go_wp2_with fail
       have pr74a:=fun u_ (h_:Ext w5 u_)=>(h_.cell zl (lo2+j)).trans gl
       have pr74b:=fun u_ (h_:Ext w5 u_)=>(h_.cell zt5 j).trans gtj
       refine wp_region_seq (S:=fun W=>Ext w5 W) (R:=Ext) (by kernel_rfl) Ext.refl ?_ ?_
       . exact exx
       refine' tkL 0 ?_;refine' tkL 1 ?_;refine' tkL 2 ?_;refine' tkL 3 ?_;refine' tkL 4 ?_;refine' tkL 5 ?_;refine' tkL 6 ?_;refine' tkL 7 ?_;refine' tkL 8 ?_;refine wpAnyR_done (by kernel_rfl) ?_ _;intro x1 _ Ex1;clear pr74a pr74b;have gl2:=(Ex1.cell zl (lo2+j)).trans gl;have E6:=hZ (BT5.out.trans Ex1)
       go_wp2_with (go_at_call 67;refine (LONG.out _ E6.out).mono ?_;rintro e w6 ⟨rfl,hb6⟩;obtain ⟨hc6,hf6,hs6⟩:=hb6.cells)
       go_roundg (m-(j+1))
       case measure=>omega
       case rel=>exact ⟨j+1,p3,c3,by omega,Nat.le_refl _,by rw [EPS2.out],by rw [EWZ.out];go_num,by go_num,Nat.le_trans hsz5 (Ex1.trans hb6).le,hZ (by rw [EPS2.out];exact R5.out.ext (Ex1.trans hb6)),hZ (WT5.out.ext (Ex1.trans hb6)),hZ (E6.out.trans hb6)⟩
     have t0:((va:Int) != (a:Int))=true:=by simp;omega
     have EPS2:=hZ (show Hp.pairsOf mv (S1.taken.take (j+1))=PJ ++ [(a:Int),(va:Int)] by rw [EPS.out];simp [hne]);clear hne
     go_wp2_with fail
     have pr75a:=fun u_ (h_:Ext w5 u_)=>(h_.cell zl (lo2+j)).trans gl
     have pr75b:=fun u_ (h_:Ext w5 u_)=>(h_.cell zt5 j).trans gtj
     refine wp_region_seq (S:=fun W=>Ext w5 W) (R:=Ext) (by kernel_rfl) Ext.refl ?_ ?_
     . exact exx
     refine' tkL 0 ?_;refine' tkL 1 ?_;refine' tkL 2 ?_;refine' tkL 3 ?_;refine' tkL 4 ?_;refine' tkL 5 ?_;refine' tkL 6 ?_;refine' tkL 7 ?_;refine' tkL 8 ?_;refine wpAnyR_done (by kernel_rfl) ?_ _;intro x1 _ Ex1;clear pr75a pr75b;have gl2:=(Ex1.cell zl (lo2+j)).trans gl;have gt2:=(Ex1.cell zt5 j).trans gtj;have zl2:=Nat.lt_of_lt_of_le zl Ex1.le;have zt2:=Nat.lt_of_lt_of_le zt5 Ex1.le
     go_wp2_with fail
     refine wp_region_any (by kernel_rfl) ?_;refine' tkA 0 rfl ?hy0_19 ?_
     case hy0_19=>(intro w;go_simp;try with_reducible rfl)
     refine layy ?_;have pr76a:=fun u_ (h_:Ext x1 u_)=>(h_.cell zl2 (lo2+j)).trans gl2
     have pr76b:=fun u_ (h_:Ext x1 u_)=>(h_.cell zt2 j).trans gt2
     refine wpAny_to_X (S:=fun W=>Ext x1 W) (R:=Ext) 9 8 Ext.refl ?_ ?_ (by rfl)
     . exact Ext.drew exx
     refine' tkY 1 ?_;refine' tkY 2 ?_;refine' tkY 3 ?_;refine' tkY 4 ?_;refine' tkY 5 ?_;refine' tkY 6 ?_;refine' tkY 7 ?_;refine' tkY 8 ?_;refine wpAnyX_done (by kernel_rfl) ?_;intro xd _ Exd;clear pr76a pr76b;simp only [List.drop_succ_cons,List.drop_zero];have E6:=hZ ((BT5.out.trans Ex1).trans Exd);have EA:Ext xd (xd.alloc (.cells #[.int .i64 (a:Int),.int .i64 (va:Int)] 3)):=Ext.alloc (Ext.refl _) _;have RA:=hZ ((R5.out.ext (Ex1.trans Exd)).ext EA);have WTA:=hZ ((WT5.out.ext (Ex1.trans Exd)).ext EA);have hszA:w4.heap.size<=(xd.alloc (.cells #[.int .i64 (a:Int),.int .i64 (va:Int)] 3)).heap.size:=Nat.le_trans hsz5 ((Ex1.trans Exd).trans EA).le;have hyc:∀ j y,Hp.rd [(a:Int),(va:Int)] j=some y->(xd.alloc (.cells #[.int .i64 (a:Int),.int .i64 (va:Int)] 3)).cell? ⟨xd.heap.size,j,none⟩=some (.int .i64 y):=by
      intro j y hj
      match j,hj with
      | 0,hj=>simp [Hp.rd] at hj;subst hj;simp [go_sem]
      | 1,hj=>simp [Hp.rd] at hj;subst hj;simp [go_sem]
      | j+2,hj=>simp [Hp.rd] at hj
     have hyb:∀ y ∈ [(a:Int),(va:Int)],-9223372036854775808<=y/\y<=9223372036854775807:=by
      intro y hy
      rcases List.mem_cons.1 hy with rfl | hy
      . omega
      have:y=(va:Int):=by simpa using hy
      subst this;omega
     have hln:PJ.length + [(a:Int),(va:Int)].length < 10000000:=by simp;omega
     have HYC:=hZ hyc;have HYB:=hZ hyb;have EAH:=hZ (E6.out.trans EA);have zt4:=hZ (show gt < w4.heap.size from zt);clear hyc hyb gl2 gt2 zl2 zt2 gl zl gtj zt5 EA;go_upto_region 13 with (at_builtin;refine wpList_append_ints rfl _ _ rfl (ys:=[(a:Int),(va:Int)]) rfl rfl (by simp) RA.out HYC.out HYB.out hln hszA ?_;intro g8 c8 x8 hR8 hG8)
     obtain ⟨row,hgr,hrow⟩:=id hG8;have E8:=hZ (ext_grow EAH.out hgr (fun q e=>by have:=hrow q e;have:=zt4.out;have:=EGT.out;omega));have gl8:=(E8.out.cell hl3 (lo2+j)).trans gl3;have WT8:=hZ (WTA.out.ofBlock (hgr.block gt WTA.out.lt (fun e=>by have:=hrow gt e.symm;have:=zt4.out;omega)));have hsz8:=Nat.le_trans hszA hgr.size;have R8H:=hZ hR8;clear hG8 hgr hrow hR8
     go_wp2_with (go_at_call 67;refine (LONG.out _ E8.out).mono ?_;rintro e w6 ⟨rfl,hb6⟩;obtain ⟨hc6,hf6,hs6⟩:=hb6.cells)
     go_roundg (m-(j+1))
     case measure=>omega
     case rel=>exact ⟨j+1,some ⟨g8,0,none⟩,c8,by omega,Nat.le_refl _,by rw [EPS2.out];simp,by rw [EWZ.out];go_num,by go_num,Nat.le_trans hsz8 hb6.le,hZ (by rw [EPS2.out];exact R8H.out.ext hb6),hZ (WT8.out.ext hb6),hZ (E8.out.trans hb6)⟩
   have:j=m:=by omega
   subst this;have tk:decide ((j:Int) < (j:Int))=false:=dF;have eT:S1.taken.take j=S1.taken:=List.take_of_length_le (by rw [EM.out];exact Nat.le_refl _);have EPJ2:=hZ (show PJ=Hp.pairsOf mv S1.taken by rw [<- EPJ.out,eT]);have WT2:=hZ (show WordsAt wr gt (S1.taken.map fun a=>((mv a:Nat):Int)) by have:=WT.out;rw [show j=S1.taken.length from EM.out.symm,Hp.toL_all] at this;exact this);have ewd:=show Hp.wsum S1 j=Hp.widths (Hp.ow S1.words) S1.sizes S1.taken by unfold Hp.wsum;rw [eT]
   rw [ewd];obtain ⟨nx,hnx⟩:∃ nx,17+Hp.widths (Hp.ow S1.words) S1.sizes S1.taken=nx:=⟨_,rfl⟩
   have ENX:=hZ hnx;rw [hnx];have nxn:nx<=n:=by rw [<- hnx,<- EN.out];exact HG.out.top
   clear hnx ewd eT EPJ WT ws
   go_wp2_with fail
   obtain ⟨w5,rfl⟩:∃ w5,w5=wr:=⟨_,rfl⟩
   have z3:=N3.out.toRW.lt;have c0:=(BT.out.cell z3 0).trans N3.out.c0;have c1:=(BT.out.cell z3 1).trans N3.out.c1;have hmk:=run_make_row' (P:=Tryz.prog) 22 3 (.int .i64 0) 8 Tryz.underlying22 (show (Tryz.prog.info? 3).map (fun i=>(i.zero,i.size,i.bytes))=some (some (.int .i64 0),1,8) from by kernel_rfl) rfl .i64 .i64 n (by omega) (by omega);have zz0:=cell_lt c0;have pr77a:=fun u_ (h_:Ext w5 u_)=>(h_.cell zz0 0).trans c0
   have pr77b:=fun u_ (h_:Ext w5 u_)=>(h_.cell zz0 1).trans c1
   refine wp_region_plan (S:=fun W=>Ext w5 W) (R:=Ext) [false,false,false,false,false,false,false,false,false,false,true,false,true,false] (by kernel_rfl) Ext.refl (fun _ _ _=>Ext.trans) (by kernel_rfl) (fun _ _ d _ _ h=>by cases d <;> exact h) (by kernel_rfl) exx ?_;intro ops hops';have hops:=hZ hops';clear hops';have ES:=hZ (Ext.drew (Ext.refl w5));generalize World.drew w5=wd at ES ⊢;refine' tkP hops ?_;refine' tkP hops ?_;refine' tkP hops ?_;refine' tkP hops ?_;refine' tkP hops ?_;refine' tkP hops ?_;refine' tkP hops ?_;refine' tkP hops ?_;refine' tkP hops ?_;refine' tkP hops ?_;refine Plan.run (fun v W=>∃ g,v = .slice (some ⟨g,0,none⟩) n n/\wd.heap.size<=g/\WordsAt W g (List.replicate n 0)/\Ext wd W) (by first | rfl | (rw [hops.out];rfl)) ?run10 ?vs10 ?next10
   case run10=>
    intro w' e1 _;refine .inr ⟨.slice (some ⟨w'.heap.size,0,none⟩) n n,w'.alloc (.cells (madeCells #[.int .i64 0] n) 3), ?_,w'.heap.size,rfl,e1.le,made_at w' n _ rfl,e1.trans (Ext.alloc (Ext.refl _) _)⟩;go_simp
   case vs10=>
    rintro v W ⟨g,rfl,-,-,hE⟩ W' e1;exact ES.out.trans (hE.trans e1)
   rintro v w6 ⟨gx,rfl,hgx,hWX,hE6⟩;have E6:=hZ hE6;have WX:=hZ hWX;have EGX:=hZ hgx;clear hgx hWX hE6;refine layy ?_;refine' tkP hops ?_;refine Plan.run (fun v W=>∃ b,v = .pointer (some ⟨b,0,none⟩)/\w6.heap.size<=b/\(W.cell? ⟨b,0,none⟩=some (.slice r.sp S1.sizes.length r.sc)/\W.cell? ⟨b,1,none⟩=some (.slice r.op S1.order.length r.oc)/\W.cell? ⟨b,2,none⟩=some (.slice (some ⟨gx,0,none⟩) n n)/\W.frozen? ⟨b,2,none⟩=false)/\Ext w6 W) (by first | rfl | (rw [hops.out];rfl)) ?run12 ?vs12 ?next12
   case run12=>
    intro w' e1 _;refine .inr ⟨.pointer (some ⟨w'.heap.size,0,none⟩),w'.alloc (.cells #[.slice r.sp S1.sizes.length r.sc,.slice r.op S1.order.length r.oc,.slice (some ⟨gx,0,none⟩) n n] 54), ?_,w'.heap.size,rfl,e1.le,⟨?_, ?_, ?_, ?_⟩,e1.trans (Ext.alloc (Ext.refl _) _)⟩ <;> go_simp
   case vs12=>
    rintro v W ⟨b,rfl,-,-,hE⟩ W' e1;exact hE.trans e1
   rintro v w7 ⟨xb,rfl,hxb,hX0,hE7⟩;have E7:=hZ hE7;have X0:=hZ hX0;have EXB:=hZ hxb;clear hxb hX0 hE7;refine layy ?_;refine' tkP hops ?_;refine Plan.done ?_;intro w8 e8 _;clear pr77a pr77b;have E8:=hZ e8;clear e8;have GX5:w5.heap.size<=gx:=Nat.le_trans ES.out.le EGX.out;have XB5:gx < xb:=Nat.lt_of_lt_of_le WX.out.lt EXB.out;have zxb:=cell_lt X0.out.1;have E58:=hZ (ES.out.trans (E6.out.trans (E7.out.trans E8.out)))
   have NX:Hid (∃ rx:Rd,rx.rb=xb/\rx.gb=gx/\rx.wc=n/\RNow w8 w8 rx { S1 with words:=List.replicate n 0 }):=hZ ⟨⟨xb,r.sp,r.sc,r.op,r.oc,gx,0,n⟩,rfl,rfl,rfl,RNow.refl
    { c0:=(E8.out.cell zxb 0).trans X0.out.1
      c1:=(E8.out.cell zxb 1).trans X0.out.2.1
      c2:=by
       refine (E8.out.cell zxb 2).trans (X0.out.2.2.1.trans ?_);simp
      f2:=(E8.out.frozen zxb 2).trans X0.out.2.2.2
      sizes:=N3.out.toRW.sizes.ext (BT.out.trans E58.out)
      order:=N3.out.toRW.order.ext (BT.out.trans E58.out)
      words:=WX.out.ext (E7.out.trans E8.out)
      le:=by simp
      cap:=by show n<=_;omega
      go:=rfl
      apart:=by show xb ≠ gx;omega
      far1:=fun h0 b o e hm=>by
       obtain ⟨b',o',e',hb,_⟩:=(N3.out.toRW.sizes.ext BT.out).cells h0;have e:r.sp=some ⟨b,o,none⟩:=e;rw [e'] at e
       cases e
       simp [Rd.own] at hm;omega
      far2:=fun h0 b o e hm=>by
       obtain ⟨b',o',e',hb,_⟩:=(N3.out.toRW.order.ext BT.out).cells h0;have e:r.op=some ⟨b,o,none⟩:=e;rw [e'] at e
       cases e
       simp [Rd.own] at hm;omega }⟩
   obtain ⟨rx,rfl,rfl,hrw,hNX⟩:=NX.out;have RWC:=hZ hrw;have NX0:=hZ hNX;have XT:=hZ (show ∀ W,But rx.own w8 W->Ext w5 W from fun W k=>k.toExt E58.out (fun b hb=>by
    simp only [Rd.own,List.mem_cons,List.mem_singleton,List.not_mem_nil,or_false] at hb;omega))
   have GO:=hZ (show ∀ k,k < n->w5.cell? ⟨g0,k,none⟩=some (.int .i64 (Hp.ow S1.words k)) from fun k hk=>by
    obtain ⟨b',o',e',hb,hc⟩:=(OL3.out.ext BT.out).cells (by rw [EN.out];omega)
    cases e'
    have:=hc k _ (Hp.rd_ow (by rw [EN.out];exact hk))
    rwa [Nat.zero_add] at this)
   have zg0:g0 < w5.heap.size:=Nat.lt_of_lt_of_le G0'.out.1 BT.out.le;have ztg:=WT2.out.lt;clear hrw hNX NX hmk zxb
   go_wp2_with fail
   go_loopg [10] j (fun g i wr=>∃ (q:Nat) (V:List Int),q<=j/\j-q<=g/\i = .int .i64 q/\Hid (Hp.Packing S1 mv q V)/\Hid (RNow w8 wr rx { S1 with words:=V }))
   case atStart=>exact ⟨0,_,Nat.zero_le _,by omega,rfl,hZ (Hp.Packing.start n EN.out),NX0⟩
   case round=>
    obtain ⟨q,V,hq,hgq,rfl,PK,NV⟩:=hrel;clear NX0;have EV:=hZ (PK.out.len.trans EN.out);have c2x:=NV.out.len EV.out;rw [RWC.out] at c2x;have z1:=NV.out.toRW.lt;have z2:=NV.out.words.lt;have EW:=hZ (XT.out _ NV.out.but)
    by_cases hlt2:q < j
    . obtain ⟨a,ha,haj,hrd⟩:=cellsI_rd (S:=S1) (j:=q) (by rw [EM.out];exact hlt2);have pa:=HW.out.part ha;rw [EN.out] at pa;have hgr:=HG.out.rng a ha;have hot:=HW.out.cells.tags a ha;have gt5:=WT2.out.get (Hp.map_rd haj);obtain ⟨lb,lo2,hlp,hlb,hlc⟩:=(SL.out.ext BT.out).cells (by rw [cellsI_len,EM.out];omega);have gl5:=hlc q _ hrd;have FI:=hZ (PK.out.into HW.out HG.out haj);have ISN:=hZ (fun W (hW:Ext w5 W)=>rIsNode (N3.out.toRW.at_.ext (BT.out.trans hW)) (a:=a) (by rw [EN.out];omega));obtain ⟨fl,hfl⟩:∃ fl,Hp.wz S1.sizes (Hp.ow S1.words a)-4=fl:=⟨_,rfl⟩
      have L20:=Hp.lt20 HW.out ha;have FLD:Hid (∀ W,Ext w5 W->Calls Tryz.prog 88 #[.pointer (some ⟨r.rb,0,none⟩),.int .i64 a] W fun e w'=>e = .returned (.slice (some ⟨r.gb,r.go+(a+4),none⟩) fl (r.wc-(a+4)))/\Ext W w'):=hZ (fun W hW=>by
       have:=rField (N3.out.toRW.at_.ext (BT.out.trans hW)) HW.out ha;rw [Hp.fz_length,hfl] at this;exact this)
      have GF:=hZ (show ∀ k,k < fl->w5.cell? ⟨r.gb,r.go+(a+4)+k,none⟩=some (.int .i64 (Hp.ow S1.words (a+4+k))) from fun k hk=>(BT.out.cell N3.out.words.lt _).trans (RNow.go0 (V:=S1.words) (S:=S1) (a:=a) (k:=k) (j:=a+4+k) N3.out (by rw [EN.out];omega) rfl rfl));have zgb:r.gb < w5.heap.size:=Nat.lt_of_lt_of_le N3.out.words.lt BT.out.le;obtain ⟨va,hva⟩:∃ va,mv a=va:=⟨_,rfl⟩
      rw [hva] at hgr gt5 FI;have EVA:=hZ hva;have hw4:Hp.wz S1.sizes (Hp.ow S1.words a)=fl+4:=by
       have:=pa.2.2.2;omega
      rw [hw4,ENX.out] at hgr;rw [hw4] at pa;have van:va+4+fl<=n:=by
       have:=hgr.2;omega
      have va17:=hgr.1;have an:a+4+fl<=n:=by
       have:=pa.2.2.1;omega
      have fl1:1<=fl:=by
       have:=pa.2.2.2;omega
      have fl12:fl<=12:=by
       have:=pa.2.2.2;omega
      have HA:=hZ ha;have HAJ:=hZ haj;have EFL:=hZ hfl;have B:=hZ (fun k=>N3.out.toRW.bound (j:=k));have tk:decide ((q:Int) < (j:Int))=true:=dT;obtain ⟨be,hbe⟩:∃ be,Hp.isEnd (Hp.ow S1.words a)=be:=⟨_,rfl⟩
      have BE:=hZ hbe;rw [L20,hbe] at ISN;clear hva pa hgr hlc hrd ha haj hfl hot hw4 L20 hbe;subst hlp;have vn0:va < n:=by omega
      have vn1:va+1 < n:=by omega
      have vn2:va+2 < n:=by omega
      have an0:a < n:=by omega
      have an1:a+1 < n:=by omega
      have an2:a+2 < n:=by omega
      have glw:=(EW.out.cell hlb (lo2+q)).trans gl5;go_upto_region 19 with (go_at_call 88;refine (FLD.out _ EW.out).mono ?_;rintro e w9 ⟨rfl,hb9⟩;obtain ⟨hc9,hf9,hs9⟩:=hb9.cells)
      have N9:=hZ (NV.out.ext hb9);have E9:=hZ (EW.out.trans hb9);have c2y:=N9.out.len EV.out;rw [RWC.out] at c2y;clear c2x z1 z2 EW hb9 hc9 hf9 hs9 glw;obtain ⟨y1,y2,y3,y4⟩:IntKind.i64.wrap (((va:Nat):Int)+1)=((va:Nat):Int)+1/\(0:Int)<=((va:Nat):Int)+1/\((va:Nat):Int)+1 < ((n:Nat):Int)/\(((va:Nat):Int)+1).toNat=va+1:=⟨IntWalk.i64_in _ (by omega),by omega,by omega,by omega⟩
      obtain ⟨s1,s2,s3,s4⟩:IntKind.i64.wrap (((va:Nat):Int)+2)=((va:Nat):Int)+2/\(0:Int)<=((va:Nat):Int)+2/\((va:Nat):Int)+2 < ((n:Nat):Int)/\(((va:Nat):Int)+2).toNat=va+2:=⟨IntWalk.i64_in _ (by omega),by omega,by omega,by omega⟩
      obtain ⟨t1,t2,t3,t4⟩:IntKind.i64.wrap (((a:Nat):Int)+1)=((a:Nat):Int)+1/\(0:Int)<=((a:Nat):Int)+1/\((a:Nat):Int)+1 < ((n:Nat):Int)/\(((a:Nat):Int)+1).toNat=a+1:=⟨IntWalk.i64_in _ (by omega),by omega,by omega,by omega⟩
      obtain ⟨u1,u2,u3,u4⟩:IntKind.i64.wrap (((a:Nat):Int)+2)=((a:Nat):Int)+2/\(0:Int)<=((a:Nat):Int)+2/\((a:Nat):Int)+2 < ((n:Nat):Int)/\(((a:Nat):Int)+2).toNat=a+2:=⟨IntWalk.i64_in _ (by omega),by omega,by omega,by omega⟩
      refine wp_region_stores (S:=(fun W:World=>W.cell? ⟨rx.rb,2,none⟩=some (.slice (some ⟨rx.gb,0,none⟩) n n)/\Ext w5 W)) [false,false,false,false,false,false,false,false,false,false,false,false,false,false,false,false,false,false,false,false,false,false,false,false,false,false,false,false,false,false,false,false,false,false,false,false,false,false,false,false,false,false,false,false,false,false,false,false,false,false,true,false,true,false,true] (by kernel_rfl) (by kernel_rfl) (fun _ _ d _ _ h=>by cases d <;> exact h) (by kernel_rfl) (by exact ⟨c2y,Ext.drew E9.out⟩) ?_;intro ops hops';have hops:=hZ hops';clear hops';have ND:=hZ (N9.out.ext (Ext.drew (Ext.refl w9)));generalize World.drew w9=wd2 at ND ⊢;clear c2y N9 E9;refine' tkS hops ?_;refine' tkS hops ?_;refine' tkS hops ?_;refine' tkT hops ?hy3_43 ?_
      case hy3_43=>(intro w hSw;(obtain ⟨s1,s2⟩:=hSw;have f1:=(s2.cell ztg q).trans gt5;have f2:=(s2.cell hlb (lo2+q)).trans gl5;have f3:=(s2.cell zg0 a).trans (GO.out a (by omega));have f4:=(s2.cell zg0 (a+1)).trans (GO.out (a+1) (by omega));have f5:=(s2.cell zg0 (a+2)).trans (GO.out (a+2) (by omega)));go_simp;try with_reducible rfl)
      refine layy ?_;refine' tkS hops ?_;refine' tkS hops ?_;refine' tkS hops ?_;refine' tkT hops ?hy7_47 ?_
      case hy7_47=>(intro w hSw;(obtain ⟨s1,s2⟩:=hSw;have f1:=(s2.cell ztg q).trans gt5;have f2:=(s2.cell hlb (lo2+q)).trans gl5;have f3:=(s2.cell zg0 a).trans (GO.out a (by omega));have f4:=(s2.cell zg0 (a+1)).trans (GO.out (a+1) (by omega));have f5:=(s2.cell zg0 (a+2)).trans (GO.out (a+2) (by omega)));go_simp;try with_reducible rfl)
      refine layy ?_;refine' tkS hops ?_;refine' tkS hops ?_;refine' tkS hops ?_;refine' tkT hops ?hy11_51 ?_
      case hy11_51=>(intro w hSw;(obtain ⟨s1,s2⟩:=hSw;have f1:=(s2.cell ztg q).trans gt5;have f2:=(s2.cell hlb (lo2+q)).trans gl5;have f3:=(s2.cell zg0 a).trans (GO.out a (by omega));have f4:=(s2.cell zg0 (a+1)).trans (GO.out (a+1) (by omega));have f5:=(s2.cell zg0 (a+2)).trans (GO.out (a+2) (by omega)));go_simp;try with_reducible rfl)
      refine layy ?_;refine' tkS hops ?_;refine' tkS hops ?_;refine' tkS hops ?_;refine' tkT hops ?hy15_55 ?_
      case hy15_55=>(intro w hSw;(obtain ⟨s1,s2⟩:=hSw;have f1:=(s2.cell ztg q).trans gt5;have f2:=(s2.cell hlb (lo2+q)).trans gl5;have f3:=(s2.cell zg0 a).trans (GO.out a (by omega));have f4:=(s2.cell zg0 (a+1)).trans (GO.out (a+1) (by omega));have f5:=(s2.cell zg0 (a+2)).trans (GO.out (a+2) (by omega)));go_simp;try with_reducible rfl)
      refine layy ?_;refine' tkS hops ?_;refine' tkS hops ?_;refine' tkS hops ?_;refine' tkS hops ?_;refine' tkT hops ?hy20_60 ?_
      case hy20_60=>(intro w hSw;(obtain ⟨s1,s2⟩:=hSw;have f1:=(s2.cell ztg q).trans gt5;have f2:=(s2.cell hlb (lo2+q)).trans gl5;have f3:=(s2.cell zg0 a).trans (GO.out a (by omega));have f4:=(s2.cell zg0 (a+1)).trans (GO.out (a+1) (by omega));have f5:=(s2.cell zg0 (a+2)).trans (GO.out (a+2) (by omega)));go_simp;try with_reducible rfl)
      refine layy ?_;refine' tkS hops ?_;refine' tkS hops ?_;refine' tkS hops ?_;refine' tkT hops ?hy24_64 ?_
      case hy24_64=>(intro w hSw;(obtain ⟨s1,s2⟩:=hSw;have f1:=(s2.cell ztg q).trans gt5;have f2:=(s2.cell hlb (lo2+q)).trans gl5;have f3:=(s2.cell zg0 a).trans (GO.out a (by omega));have f4:=(s2.cell zg0 (a+1)).trans (GO.out (a+1) (by omega));have f5:=(s2.cell zg0 (a+2)).trans (GO.out (a+2) (by omega)));go_simp;try with_reducible rfl)
      refine layy ?_;refine' tkS hops ?_;refine' tkS hops ?_;refine' tkS hops ?_;refine' tkS hops ?_;refine' tkS hops ?_;refine' tkT hops ?hy30_70 ?_
      case hy30_70=>(intro w hSw;(obtain ⟨s1,s2⟩:=hSw;have f1:=(s2.cell ztg q).trans gt5;have f2:=(s2.cell hlb (lo2+q)).trans gl5;have f3:=(s2.cell zg0 a).trans (GO.out a (by omega));have f4:=(s2.cell zg0 (a+1)).trans (GO.out (a+1) (by omega));have f5:=(s2.cell zg0 (a+2)).trans (GO.out (a+2) (by omega)));go_simp;try with_reducible rfl)
      refine layy ?_;refine' tkS hops ?_;refine' tkT hops ?hy32_72 ?_
      case hy32_72=>(intro w hSw;(obtain ⟨s1,s2⟩:=hSw;have f1:=(s2.cell ztg q).trans gt5;have f2:=(s2.cell hlb (lo2+q)).trans gl5;have f3:=(s2.cell zg0 a).trans (GO.out a (by omega));have f4:=(s2.cell zg0 (a+1)).trans (GO.out (a+1) (by omega));have f5:=(s2.cell zg0 (a+2)).trans (GO.out (a+2) (by omega)));go_simp;try with_reducible rfl)
      refine layy ?_;refine' tkS hops ?_;refine' tkS hops ?_;refine' tkS hops ?_;refine' tkS hops ?_;refine' tkT hops ?hy37_77 ?_
      case hy37_77=>(intro w hSw;(obtain ⟨s1,s2⟩:=hSw;have f1:=(s2.cell ztg q).trans gt5;have f2:=(s2.cell hlb (lo2+q)).trans gl5;have f3:=(s2.cell zg0 a).trans (GO.out a (by omega));have f4:=(s2.cell zg0 (a+1)).trans (GO.out (a+1) (by omega));have f5:=(s2.cell zg0 (a+2)).trans (GO.out (a+2) (by omega)));go_simp;try with_reducible rfl)
      refine layy ?_;refine' tkS hops ?_;refine' tkS hops ?_;refine' tkT hops ?hy40_80 ?_
      case hy40_80=>(intro w hSw;(obtain ⟨s1,s2⟩:=hSw;have f1:=(s2.cell ztg q).trans gt5;have f2:=(s2.cell hlb (lo2+q)).trans gl5;have f3:=(s2.cell zg0 a).trans (GO.out a (by omega));have f4:=(s2.cell zg0 (a+1)).trans (GO.out (a+1) (by omega));have f5:=(s2.cell zg0 (a+2)).trans (GO.out (a+2) (by omega)));go_simp;try with_reducible rfl)
      refine layy ?_;refine' tkS hops ?_;refine' tkS hops ?_;refine' tkS hops ?_;refine' tkS hops ?_;refine' tkT hops ?hy45_85 ?_
      case hy45_85=>(intro w hSw;(obtain ⟨s1,s2⟩:=hSw;have f1:=(s2.cell ztg q).trans gt5;have f2:=(s2.cell hlb (lo2+q)).trans gl5;have f3:=(s2.cell zg0 a).trans (GO.out a (by omega));have f4:=(s2.cell zg0 (a+1)).trans (GO.out (a+1) (by omega));have f5:=(s2.cell zg0 (a+2)).trans (GO.out (a+2) (by omega)));go_simp;try with_reducible rfl)
      refine layy ?_;refine' tkS hops ?_;refine' tkS hops ?_;refine' tkT hops ?hy48_88 ?_
      case hy48_88=>(intro w hSw;(obtain ⟨s1,s2⟩:=hSw;have f1:=(s2.cell ztg q).trans gt5;have f2:=(s2.cell hlb (lo2+q)).trans gl5;have f3:=(s2.cell zg0 a).trans (GO.out a (by omega));have f4:=(s2.cell zg0 (a+1)).trans (GO.out (a+1) (by omega));have f5:=(s2.cell zg0 (a+2)).trans (GO.out (a+2) (by omega)));go_simp;try with_reducible rfl)
      refine layy ?_;refine' tkS hops ?_;have g0':=ND.out.word (j:=va) (x:=_) (by rw [EV.out];exact vn0) rfl;have fr0:=ND.out.words.froz va;have zg:=ND.out.words.lt;have NA:=hZ (ND.out.set (j:=va) (v:=Hp.ow S1.words a) (by show va < V.length;rw [EV.out];exact vn0) (B.out a (by rw [EN.out];omega)).1 (B.out a (by rw [EN.out];omega)).2);refine PlanS.put (wd2.setCell ⟨rx.gb,va,none⟩ (.int .i64 (Hp.ow S1.words a))) (by first | rfl | (rw [hops.out];rfl)) ?run50 ?hS50 ?next50
      case run50=>go_simp
      case hS50=>
       have:=NA.out.len (n:=n) (by simp;exact EV.out);rw [RWC.out] at this;exact ⟨this,XT.out _ NA.out.but⟩
      refine layy ?_;generalize wd2.setCell ⟨rx.gb,va,none⟩ (.int .i64 (Hp.ow S1.words a))=we at NA ⊢;clear g0' fr0 zg ND;refine' tkS hops ?_;have g0':=NA.out.word (j:=va+1) (x:=_) (by simp;rw [EV.out];exact vn1) rfl;have fr0:=NA.out.words.froz (va+1);have zg:=NA.out.words.lt;have NB:=hZ (NA.out.set (j:=va+1) (v:=Hp.ow S1.words (a+1)) (by simp;rw [EV.out];exact vn1) (B.out (a+1) (by rw [EN.out];omega)).1 (B.out (a+1) (by rw [EN.out];omega)).2);refine PlanS.put (we.setCell ⟨rx.gb,va+1,none⟩ (.int .i64 (Hp.ow S1.words (a+1)))) (by first | rfl | (rw [hops.out];rfl)) ?run52 ?hS52 ?next52
      case run52=>go_simp
      case hS52=>
       have:=NB.out.len (n:=n) (by simp;exact EV.out);rw [RWC.out] at this;exact ⟨this,XT.out _ NB.out.but⟩
      refine layy ?_;generalize we.setCell ⟨rx.gb,va+1,none⟩ (.int .i64 (Hp.ow S1.words (a+1)))=wf at NB ⊢;clear g0' fr0 zg NA;refine' tkS hops ?_;have g0':=NB.out.word (j:=va+2) (x:=_) (by simp;rw [EV.out];exact vn2) rfl;have fr0:=NB.out.words.froz (va+2);have zg:=NB.out.words.lt;have NC:=hZ (NB.out.set (j:=va+2) (v:=Hp.ow S1.words (a+2)) (by simp;rw [EV.out];exact vn2) (B.out (a+2) (by rw [EN.out];omega)).1 (B.out (a+2) (by rw [EN.out];omega)).2);refine PlanS.put (wf.setCell ⟨rx.gb,va+2,none⟩ (.int .i64 (Hp.ow S1.words (a+2)))) (by first | rfl | (rw [hops.out];rfl)) ?run54 ?hS54 ?next54
      case run54=>go_simp
      case hS54=>
       have:=NC.out.len (n:=n) (by simp;exact EV.out);rw [RWC.out] at this;exact ⟨this,XT.out _ NC.out.but⟩
      refine layy ?_;generalize wf.setCell ⟨rx.gb,va+2,none⟩ (.int .i64 (Hp.ow S1.words (a+2)))=wg at NC ⊢;clear g0' fr0 zg NB;refine PlanS.done ?_;clear y1 y2 y3 y4 s1 s2 s3 s4 t1 t2 t3 t4 u1 u2 u3 u4
      go_wp2_with fail
      go_loopg [12] fl (fun g s wr=>∃ (k:Nat) (V2:List Int),k<=fl/\fl-k<=g/\s = .int .i64 k/\Hid (Hp.Filling S1 mv a V k V2)/\Hid (RNow w8 wr rx { S1 with words:=V2 }))
      case atStart=>exact ⟨0,_,Nat.zero_le _,by omega,rfl,FI,NC⟩
      case round=>
       obtain ⟨k,V2,hk,hgk,rfl,FL,NK⟩:=hrel;clear FI NC EV NV;have EV:=hZ (FL.out.len.trans EN.out);have EK:=hZ (XT.out _ NK.out.but)
       by_cases hlt3:k < fl
       . have tk2:decide ((k:Int) < (fl:Int))=true:=dT;have gf5:=GF.out k hlt3;have v4n:va+4 < n:=by omega
         have vkn:va+4+k < n:=by omega
         obtain ⟨y1,y2,y3,y4⟩:IntKind.i64.wrap (((va:Nat):Int)+4)=((va:Nat):Int)+4/\(0:Int)<=((va:Nat):Int)+4/\((va:Nat):Int)+4 < ((n:Nat):Int)/\(((va:Nat):Int)+4).toNat=va+4:=⟨IntWalk.i64_in _ (by omega),by omega,by omega,by omega⟩
         obtain ⟨s1,s2,s3,s4⟩:IntKind.i64.wrap (((va:Nat):Int)+4+((k:Nat):Int))=((va:Nat):Int)+4+((k:Nat):Int)/\(0:Int)<=((va:Nat):Int)+4+((k:Nat):Int)/\((va:Nat):Int)+4+((k:Nat):Int) < ((n:Nat):Int)/\(((va:Nat):Int)+4+((k:Nat):Int)).toNat=va+4+k:=⟨IntWalk.i64_in _ (by omega),by omega,by omega,by omega⟩
         have w4k:IntKind.i64.wrap ((va:Int)+4+(k:Int))=(va:Int)+4+(k:Int):=IntWalk.i64_in _ (by omega)
         go_wp2_with fail
         refine wp_region_still_tail 16 (by kernel_rfl) (by kernel_rfl) ?_;change wpStill _ _ (World.drew wr) (fun a'=>wpList _ _ _ _ a' (World.drew wr)) _ _;have EDW:Ext wr (World.drew wr):=Ext.drew (Ext.refl _);have NY:=hZ (NK.out.ext EDW);generalize World.drew wr=wy at NY EDW ⊢;have f2:=NY.out.f2;have z1:=NY.out.toRW.lt;have z2:=NY.out.words.lt;have c2':=NY.out.len EV.out;rw [RWC.out] at c2';have gt':=((EK.out.trans EDW).cell ztg q).trans gt5;have gf':=((EK.out.trans EDW).cell zgb (r.go+(a+4)+k)).trans gf5;have g1:=NY.out.word (j:=va+4+k) (x:=_) (by rw [EV.out];exact vkn) rfl;have fr:=NY.out.words.froz (va+4+k);simp only [List.take_succ_cons,List.take_zero,List.drop_succ_cons,List.drop_zero]
         repeat still_step
         refine wpStill_nil ?_;have BF:=B.out (a+4+k) (by rw [EN.out];omega);have NS:=hZ (NY.out.set (j:=va+4+k) (v:=Hp.ow S1.words (a+4+k)) (by show va+4+k < V2.length;rw [EV.out];exact vkn) BF.1 BF.2);have hkw:k < Hp.wz S1.sizes (Hp.ow S1.words a)-4:=by rw [EFL.out];exact hlt3
         go_upto_region 24 with fail
         refine cutW (F:=fun W=>Hid (RNow w8 W rx { S1 with words:=V2.set (va+4+k) (Hp.ow S1.words (a+4+k)) })) NS ?_;rintro wz NZ;have EZ:=hZ (XT.out _ NZ.out.but);have glz:=(EZ.out.cell hlb (lo2+q)).trans gl5;clear NS NY NK EK EDW
         cases be with
         | true=>
          have ST:=hZ (FL.out.step HW.out HG.out HA.out hkw);rw [EVA.out,Hp.nz_end BE.out hkw] at ST;clear y1 y2 y3 y4 s1 s2 s3 s4 w4k
          go_wp2_with (go_at_call 87;refine (ISN.out _ EZ.out).mono ?_;rintro e w10 ⟨rfl,hb10⟩;obtain ⟨hc10,hf10,hs10⟩:=hb10.cells)
          go_roundg (fl-(k+1))
          case measure=>omega
          case rel=>exact ⟨k+1,_,by omega,Nat.le_refl _,by go_num,hZ ST.out.2,hZ (NZ.out.ext hb10)⟩
         | false=>
          obtain ⟨b,hb,eb,enz⟩:=Hp.nz_node (m:=mv) HW.out HA.out BE.out hkw;have F2:=hZ ((FL.out.fill HW.out HG.out HA.out hkw (Hp.ow S1.words (a+4+k))).2);have ST:=hZ (F2.out.step HW.out HG.out HA.out hkw);rw [EVA.out] at F2;rw [EVA.out,enz] at ST;have MBB:=MB.out b hb;have MOV:Hid (∀ W,Ext w5 W->Calls Tryz.prog 151 #[.slice (some ⟨lb,lo2,none⟩) j c2,.slice (some ⟨gt,0,none⟩) j j,.int .i64 (Hp.ow S1.words (a+4+k))] W fun e w'=>e = .returned (.int .i64 (mv b:Int))/\Ext W w'):=hZ (fun W hW=>by
           obtain ⟨ix,hix,eix⟩:=List.getElem_of_mem hb;have hix':S1.taken[ix]? = some b:=by rw [List.getElem?_eq_getElem hix,eix]
           have hnd:=Hp.up_nodup HW.out.up;have hcr:=cellsI_at hix';have:=rMoving (SL.out.ext (BT.out.trans hW)) ((WT2.out.ext hW).slice (c:=j) (by rw [List.length_map];exact Nat.le_of_eq EM.out) (by omega)) (by rw [List.length_map,cellsI_len]) (k:=ix) hcr (fun i hi e=>cellsI_first hnd hix' i hi e) (Hp.map_rd hix');rw [cellsI_len,List.length_map,EM.out] at this;rw [eb];exact this)
          obtain ⟨vb,hvb⟩:∃ vb,mv b=vb:=⟨_,rfl⟩
          rw [hvb] at MOV ST MBB;clear hvb hb eb enz;go_upto_region 25 with (go_at_call 87;refine (ISN.out _ EZ.out).mono ?_;rintro e w10 ⟨rfl,hb10⟩;obtain ⟨hc10,hf10,hs10⟩:=hb10.cells)
          have NQ:=hZ (NZ.out.ext hb10);have EQ:=hZ (EZ.out.trans hb10);have EV3:=hZ (show (V2.set (va+4+k) (Hp.ow S1.words (a+4+k))).length=n by simp;exact EV.out);have c2q:=NQ.out.len EV3.out;rw [RWC.out] at c2q;have zq1:=NQ.out.toRW.lt;clear hb10 hc10 hf10 hs10 EZ NZ glz;refine wp_region_any (by kernel_rfl) ?_;have pr78a:=fun u_ (h_:Ext w10 u_)=>(h_.cell zq1 2).trans c2q
          have pr78b:=fun u_ (h_:Ext w10 u_)=>((EQ.out.trans h_).cell ztg q).trans gt5
          have pr78c:=fun u_ (h_:Ext w10 u_)=>((EQ.out.trans h_).cell zgb (r.go+(a+4)+k)).trans gf5
          refine wpAny_to_X (S:=fun W=>Ext w10 W) (R:=Ext) 18 18 Ext.refl ?_ ?_ (by rfl)
          . exact Ext.drew exx
          refine' tkY 0 ?_;refine' tkY 1 ?_;refine' tkY 2 ?_;refine' tkY 3 ?_;refine' tkY 4 ?_;refine' tkY 5 ?_;refine' tkY 6 ?_;refine' tkY 7 ?_;refine' tkY 8 ?_;refine' tkY 9 ?_;refine' tkY 10 ?_;refine' tkY 11 ?_;refine' tkY 12 ?_;refine' tkY 13 ?_;refine' tkY 14 ?_;refine' tkY 15 ?_;refine' tkY 16 ?_;refine' tkX 17 (v:=.int .i64 (vb:Int)) rfl (Or.inr ⟨by rfl,151,_, ?hx17_109, ?hy17_109⟩) ?rest17_109
          case hx17_109=>(intro w hSw;go_simp;try with_reducible rfl)
          case hy17_109=>exact fun w hE=>(MOV.out _ (EQ.out.trans hE)).mono (fun _ _ h=>⟨h.1,h.2,Ext.trans hE h.2⟩)
          refine layy ?_;refine wpAnyX_done (by kernel_rfl) ?_;intro wv _ Ewv;clear pr78a pr78b pr78c;simp only [List.drop_succ_cons,List.drop_zero];have NW:=hZ (NQ.out.ext Ewv);have c2w:=NW.out.len EV3.out;rw [RWC.out] at c2w;have g1:=NW.out.word (j:=va+4+k) (x:=_) (by rw [EV3.out];exact vkn) rfl;have fr:=NW.out.words.froz (va+4+k);have zw:=NW.out.words.lt;have N11:=hZ (NW.out.set (j:=va+4+k) (v:=(vb:Int)) (by show va+4+k < (V2.set (va+4+k) (Hp.ow S1.words (a+4+k))).length;rw [EV3.out];exact vkn) (by omega) (by omega))
          go_wp2_with fail
          go_roundg (fl-(k+1))
          case measure=>omega
          case rel=>exact ⟨k+1,_,by omega,Nat.le_refl _,by go_num,hZ ST.out.2,N11⟩
       have:k=fl:=by omega
       subst this;have tk2:decide ((k:Int) < (k:Int))=false:=dF;have FF:Hp.Filling S1 mv a V (Hp.wz S1.sizes (Hp.ow S1.words a)-4) V2:=by rw [EFL.out];exact FL.out
       have CU:=FF.cut;obtain ⟨c,hc⟩:∃ c,Hp.cz (Hp.ow S1.words a) (Hp.nz (Hp.ow S1.words) S1.sizes mv a)=c:=⟨_,rfl⟩
       have c16:=Hp.cz_lt (Hp.ow S1.words a) (Hp.nz (Hp.ow S1.words) S1.sizes mv a);rw [hc] at c16;have FD:=hZ (Hp.Filling.done HW.out HG.out PK.out HAJ.out FF hc);have CHK:Hp.chain (Hp.ow S1.words a) (Hp.nz (Hp.ow S1.words) S1.sizes mv a)=some c:=by
        have:=HW2.out.chain_ (a:=mv a) (by rw [HM.out.taken];exact List.mem_map.2 ⟨a,HA.out,rfl⟩);rw [HM.out.tag a HA.out,HM.out.sizes,HM.out.fs a HA.out,hc] at this;exact this
       have V0W:=FF.three.1;rw [EFL.out,EVA.out] at CU;rw [EVA.out] at FD V0W;rw [<- CU] at CHK;have CHN:Hid (∀ W,Ext wr W->Calls Tryz.prog 137 #[.int .i64 (Hp.ow S1.words a),.slice (some ⟨rx.gb,va+4,none⟩) k (n-(va+4))] W fun e w'=>e = .returned (.int .i64 (c:Int))/\Ext W w'):=hZ (fun W hW=>by
        have:=rChain ((NK.out.ext hW).words.sub (c:=n) (i:=va+4) (n:=k) (by show _<=V2.length;rw [EV.out];omega) (by show V2.length<=n;rw [EV.out];exact Nat.le_refl _) (by omega)) CHK;rw [Hp.cut_length] at this;exact this)
       have z1k:=NK.out.toRW.lt;have z2k:=NK.out.words.lt;have c2k:=NK.out.len EV.out;rw [RWC.out] at c2k;have gvk:=NK.out.word (j:=va) (by rw [EV.out];omega) V0W;have w4:IntKind.i64.wrap ((va:Int)+4)=(va:Int)+4:=IntWalk.i64_in _ (by omega);have w4k:IntKind.i64.wrap ((va:Int)+4+(k:Int))=(va:Int)+4+(k:Int):=IntWalk.i64_in _ (by omega);have s3:(0:Int)<=(va:Int)+4:=by omega
       have s4:(va:Int)+4<=(va:Int)+4+(k:Int):=by omega
       have s5:(va:Int)+4+(k:Int)<=(n:Int):=by omega
       have s6:((va:Int)+4).toNat=va+4:=by omega
       have s7:((va:Int)+4+(k:Int)).toNat=va+4+k:=by omega
       have s8:va+4+k-(va+4)=k:=by omega
       have cne:¬ n=va+4:=by omega
       clear CHK CU FF FL hc
       go_wp2_with fail
       have pr79a:=fun u_ (h_:Ext wr u_)=>(h_.cell z1k 2).trans c2k
       have pr79b:=fun u_ (h_:Ext wr u_)=>((EK.out.trans h_).cell ztg q).trans gt5
       have pr79c:=fun u_ (h_:Ext wr u_)=>(h_.cell z2k va).trans gvk
       refine wp_region_seq (S:=fun W=>Ext wr W) (R:=Ext) (by kernel_rfl) Ext.refl ?_ ?_
       . exact exx
       refine' tkL 0 ?_;refine' tkL 1 ?_;refine' tkL 2 ?_;refine' tkL 3 ?_;refine' tkL 4 ?_;refine' tkL 5 ?_;refine' tkL 6 ?_;refine' tkL 7 ?_;refine' tkL 8 ?_;refine' tkL 9 ?_;refine' tkL 10 ?_;refine' tkL 11 ?_;refine' tkL 12 ?_;refine' tkL 13 ?_;refine' tkL 14 ?_;refine' tkL 15 ?_;refine' tkL 16 ?_;refine' tkL 17 ?_;refine' tkL 18 ?_;refine' tkL 19 ?_;refine' tkL 20 ?_;refine' tkL 21 ?_;refine' tkL 22 ?_;refine' tkL 23 ?_;refine' tkL 24 ?_;refine' tkL 25 ?_;refine' tkL 26 ?_;refine' tkL 27 ?_;refine' tkR 28 (v:=.int .i64 c) rfl (Or.inr ⟨by rfl,137,_, ?hx28_138, ?hy28_138⟩) ?rest28_138
       case hx28_138=>(intro w hSw;go_simp;try with_reducible rfl)
       case hy28_138=>exact fun w hE=>(CHN.out _ hE).mono (fun _ _ h=>⟨h.1,h.2,Ext.trans hE h.2⟩)
       refine layy ?_;refine' tkL 29 ?_;refine wpAnyR_done (by kernel_rfl) ?_ _;intro x1 _ Ex1;clear pr79a pr79b pr79c;have N1:=hZ (NK.out.ext Ex1);have E1:=hZ (EK.out.trans Ex1);clear w4 w4k s3 s4 s5 s6 s7 s8 cne c2k gvk z1k z2k NK EK CHN;have v3n:va+3 < n:=by omega
       have cn:c < n:=by omega
       obtain ⟨y1,y2,y3,y4⟩:IntKind.i64.wrap (((va:Nat):Int)+3)=((va:Nat):Int)+3/\(0:Int)<=((va:Nat):Int)+3/\((va:Nat):Int)+3 < ((n:Nat):Int)/\(((va:Nat):Int)+3).toNat=va+3:=⟨IntWalk.i64_in _ (by omega),by omega,by omega,by omega⟩
       go_wp2_with fail
       refine wp_region_still_tail 17 (by kernel_rfl) (by kernel_rfl) ?_;change wpStill _ _ (World.drew x1) (fun a'=>wpList _ _ _ _ a' (World.drew x1)) _ _;have EDW:Ext x1 (World.drew x1):=Ext.drew (Ext.refl _);have NY:=hZ (N1.out.ext EDW);generalize World.drew x1=wy at NY EDW ⊢;have f2:=NY.out.f2;have z1:=NY.out.toRW.lt;have z2:=NY.out.words.lt;have c2':=NY.out.len EV.out;rw [RWC.out] at c2';have gt':=((E1.out.trans EDW).cell ztg q).trans gt5;have gc:=NY.out.word (j:=c) (x:=_) (by rw [EV.out];exact cn) rfl;have g1:=NY.out.word (j:=va+3) (x:=_) (by rw [EV.out];exact v3n) rfl;have fr:=NY.out.words.froz (va+3);simp only [List.take_succ_cons,List.take_zero,List.drop_succ_cons,List.drop_zero]
       repeat still_step
       refine wpStill_nil ?_;have BC:=NY.out.toRW.bound (j:=c) (by show c < V2.length;rw [EV.out];exact cn);have NS:=hZ (NY.out.set (j:=va+3) (v:=Hp.ow V2 c) (by show va+3 < V2.length;rw [EV.out];exact v3n) BC.1 BC.2);go_upto_region 28 with fail
       refine cutW (F:=fun W=>Hid (RNow w8 W rx { S1 with words:=V2.set (va+3) (Hp.ow V2 c) })) NS ?_;rintro wz NZ;have EZ:=hZ (XT.out _ NZ.out.but);have EV3:=hZ (show (V2.set (va+3) (Hp.ow V2 c)).length=n by simp;exact EV.out);clear NS NY N1 E1 EDW y1 y2 y3 y4 BC gc g1 fr;refine wp_region_still_tail 10 (by kernel_rfl) (by kernel_rfl) ?_;change wpStill _ _ (World.drew wz) (fun a'=>wpList _ _ _ _ a' (World.drew wz)) _ _;have EDW:Ext wz (World.drew wz):=Ext.drew (Ext.refl _);have NY:=hZ (NZ.out.ext EDW);generalize World.drew wz=wy at NY EDW ⊢;have f2:=NY.out.f2;have z1:=NY.out.toRW.lt;have z2:=NY.out.words.lt;have c2':=NY.out.len EV3.out;rw [RWC.out] at c2';have gt':=((EZ.out.trans EDW).cell ztg q).trans gt5;have g1:=NY.out.word (j:=c) (x:=_) (by rw [EV3.out];exact cn) rfl;have fr:=NY.out.words.froz c;simp only [List.take_succ_cons,List.take_zero,List.drop_succ_cons,List.drop_zero]
       repeat still_step
       refine wpStill_nil ?_;have N12:=hZ (NY.out.set (j:=c) (v:=(va:Int)) (by show c < (V2.set (va+3) (Hp.ow V2 c)).length;rw [EV3.out];exact cn) (by omega) (by omega))
       go_wp2_with fail
       go_roundg (j-(q+1))
       case measure=>omega
       case rel=>exact ⟨q+1,_,by omega,Nat.le_refl _,by go_num,hZ FD.out.2.2.2,N12⟩
    have:q=j:=by omega
    subst this;have tk2:decide ((q:Int) < (q:Int))=false:=dF;have NEAR:=hZ (Hp.Packing.near HW.out HG.out HM.out HW2.out HCH.out HU.out HL2.out (V:=V) (by rw [EM.out];exact PK.out));rw [ENX.out,EN.out] at NEAR
    have REST:=hZ (show ∀ (wz:World) (V':List Int),RNow w8 wz rx { S1 with words:=V' } -> V'.length=n->Hp.Near L2 V' S2.words ->
        (World.cell? wz ⟨r.rb,2,none⟩=some (.slice (some ⟨r.gb,0,none⟩) n r.wc)/\World.frozen? wz ⟨r.rb,2,none⟩=false/\r.rb < wz.heap.size) /\
        Calls Tryz.prog 152 #[.pointer (some ⟨r.rb,0,none⟩)] (wz.setCell ⟨r.rb,2,none⟩ (.slice (some ⟨rx.gb,0,none⟩) n n)) (fun e w'=>e = .returned (.tuple #[])/\RCPost w r S1 S2 M (.returned (.slice p3 PJ.length c3)) w') from fun wz V' NZ hV near=>by
      have EZ:=XT.out _ NZ.but;have N3Z:=N3.out.ext (BT.out.trans EZ);have hs3:w3.heap.size<=rx.gb:=Nat.le_trans BT.out.le GX5;have HH:=RW.hand (S2:=S2) N3.out.toRW (BT.out.trans EZ) NZ.toRW hs3 hV hhi HM.out.sizes HM.out.order;refine ⟨⟨by have:=N3Z.len (V:=S1.words) (n:=n) EN.out;exact this,N3Z.f2,N3Z.lt⟩, ?_⟩;refine (rLink HH HW2.out near).mono ?_;rintro e w' ⟨rfl,hN⟩;have hl2:S2.words.length=n:=by rw [HM.out.len];exact EN.out
      have RZ:=R.out.ext EZ;have KB:But [r.rb] wz (wz.setCell ⟨r.rb,2,none⟩ (.slice (some ⟨rx.gb,0,none⟩) n n)):=(But.refl _ _).setCell (by simp) _;have rbs:r.rb < w.heap.size:=own.out r.rb r.rb_own;have hb4:w3.heap.size<=w4.heap.size:=E4.out.le;have RK:=RZ.but_ KB (fun b o e=>by
       have:=RZ.far e;simp;omega)
      refine ⟨rfl,mv,p3,c3,w4.heap.size,rx.gb,by rw [EPJ2.out],by omega, ?_,by omega, ?_, ?_,HM.out⟩
      . rw [<- EPJ2.out];refine RK.but_ hN.but (fun b o e hm=>?_);have h1:=R.out.lt e;have h2:=RZ.far e;simp only [Rd.own,List.mem_cons,List.not_mem_nil,or_false] at hm
        rcases hm with hm | hm <;> omega
      . rw [hl2];exact hN.toRW
      . refine (N3Z.but.widen KB (fun x hx=>?_)).widen hN.but (fun x hx=>?_)
        . have:x=r.rb:=by simpa using hx
          subst this;exact .inl r.rb_own
        . simp only [Rd.own,List.mem_cons,List.not_mem_nil,or_false] at hx
          rcases hx with rfl | rfl
          . exact .inl r.rb_own
          . exact .inr (by omega))
    clear R HM HG HCH HU HL2 PLC MB WS SL OL3 GO
    by_cases hfree:nx < n
    . have t3:decide ((nx:Int) < (n:Int))=true:=dT;obtain ⟨hx1,hnear⟩:=NEAR.out.1 hfree;have x1n:nx+1 < n:=by
       rw [EV.out] at hx1;exact hx1
      have HN:=hZ hnear;have wsub:IntKind.i64.wrap ((n:Int)-(nx:Int))=(n:Int)-(nx:Int):=IntWalk.i64_in _ (by omega);obtain ⟨y1,y2,y3,y4⟩:IntKind.i64.wrap (((nx:Nat):Int)+1)=((nx:Nat):Int)+1/\(0:Int)<=((nx:Nat):Int)+1/\((nx:Nat):Int)+1 < ((n:Nat):Int)/\(((nx:Nat):Int)+1).toNat=nx+1:=⟨IntWalk.i64_in _ (by omega),by omega,by omega,by omega⟩
      clear hx1 hnear NEAR
      go_wp2_with fail
      trace_state
      refine wp_region_still_tail 14 (by kernel_rfl) (by kernel_rfl) ?_;change wpStill _ _ (World.drew wr) (fun a'=>wpList _ _ _ _ a' (World.drew wr)) _ _;have EDW:Ext wr (World.drew wr):=Ext.drew (Ext.refl _);have NY:=hZ (NV.out.ext EDW);generalize World.drew wr=wy at NY EDW ⊢;have f2:=NY.out.f2;have z1:=NY.out.toRW.lt;have z2:=NY.out.words.lt;have c2':=NY.out.len EV.out;rw [RWC.out] at c2';have g1:=NY.out.word (j:=nx+1) (x:=_) (by rw [EV.out];exact x1n) rfl;have fr:=NY.out.words.froz (nx+1);simp only [List.take_succ_cons,List.take_zero,List.drop_succ_cons,List.drop_zero]
      repeat still_step
      refine wpStill_nil ?_;have NS:=hZ (NY.out.set (j:=nx+1) (v:=(n:Int)-(nx:Int)) (by show nx+1 < V.length;rw [EV.out];exact x1n) (by omega) (by omega));go_upto_region 31 with fail
      refine cutW (F:=fun W=>Hid (RNow w8 W rx { S1 with words:=V.set (nx+1) ((n:Int)-(nx:Int)) })) NS ?_;rintro wz NZ;clear NS NY EDW y1 y2 y3 y4 wsub;obtain ⟨⟨cz2,cf2,cz1⟩,LKC⟩:=REST.out wz _ NZ.out (by simp;exact EV.out) HN.out;have LK:=hZ LKC;have c2z:=NZ.out.len (n:=n) (by simp;exact EV.out);rw [RWC.out] at c2z;clear LKC
      go_wp2_with (go_at_call 152;refine LK.out.mono ?_;rintro e w9 ⟨rfl,hpost⟩)
      go_returns;exact hpost
    have t3:decide ((nx:Int) < (n:Int))=false:=dF;have HN:=hZ (NEAR.out.2 hfree);obtain ⟨⟨cz2,cf2,cz1⟩,LKC⟩:=REST.out wr _ NV.out EV.out HN.out;have LK:=hZ LKC;clear LKC NEAR
    go_wp2_with (go_at_call 152;refine LK.out.mono ?_;rintro e w9 ⟨rfl,hpost⟩)
    go_returns;exact hpost
structure PlAt (wb w:World) (r:Rd) (s:Hp.Sc) (p1:Option Addr) (k1:Nat) (p2:Option Addr) (k2:Nat):Prop extends RW w r s.S where
 own0:∀ b ∈ r.own,wb.heap.size<=b
 ext0:Ext wb w
 r1:Row w 0 p1 k1 s.res
 r2:Row w 0 p2 k2 s.ats
 n1:∀ b o,p1=some ⟨b,o,none⟩->wb.heap.size<=b/\b ∉ r.own
 n2:∀ b o,p2=some ⟨b,o,none⟩->wb.heap.size<=b/\b ∉ r.own
 n12:∀ b o b' o',p1=some ⟨b,o,none⟩->p2=some ⟨b',o',none⟩->b ≠ b'
 sp0:0 < s.S.sizes.length -> ∀ b o,r.sp=some ⟨b,o,none⟩->b < wb.heap.size
 op0:0 < s.S.order.length -> ∀ b o,r.op=some ⟨b,o,none⟩->b < wb.heap.size
theorem Row.base0 (h:Row w base p c l):Row w 0 p c l:=by
 refine ⟨⟨h.1.1, ?_⟩,h.2⟩
 rcases h.1.2 with e | ⟨g,cap,cur,e,h1,r⟩
 . exact .inl e
 exact .inr ⟨g,cap,cur,e,Nat.zero_le _,r⟩
theorem RW.but' (h:RW w r S) {l:List Nat} (k:But l w w') (h0:r.rb ∉ l) (h1:r.gb ∉ l) (h3:0 < S.sizes.length -> ∀ b o,r.sp=some ⟨b,o,none⟩->b ∉ l) (h4:0 < S.order.length -> ∀ b o,r.op=some ⟨b,o,none⟩->b ∉ l):RW w' r S:=
 { h with
   c0:=(k.cell h.lt h0 0).trans h.c0
   c1:=(k.cell h.lt h0 1).trans h.c1
   c2:=(k.cell h.lt h0 2).trans h.c2
   f2:=(k.frozen h.lt h0 2).trans h.f2
   sizes:=h.sizes.but1 k h3
   order:=h.order.but1 k h4
   words:=h.words.but k h1 }
namespace PlAt
variable {wb w w':World} {r r':Rd} {s:Hp.Sc} {p1 p2:Option Addr} {k1 k2:Nat}
theorem ext (h:PlAt wb w r s p1 k1 p2 k2) (k:Ext w w'):PlAt wb w' r s p1 k1 p2 k2:=
 { h with
   toRW:=h.toRW.ext k
   ext0:=h.ext0.trans k
   r1:=h.r1.ext k
   r2:=h.r2.ext k }
theorem le0 (h:PlAt wb w r s p1 k1 p2 k2):wb.heap.size<=w.heap.size:=h.ext0.le
theorem turn (h:PlAt wb w r s p1 k1 p2 k2) (k:But r.own w w') (h':RW w' r' S') (hr:r'.rb=r.rb) (hg:r'.gb=r.gb \/ w.heap.size<=r'.gb) (hp:r'.sp=r.sp) (ho:r'.op=r.op) (es:S'.sizes=s.S.sizes) (eo:S'.order=s.S.order):PlAt wb w' r' { s with S:=S' } p1 k1 p2 k2:=by
 have e0:=h.le0
 have own:∀ b ∈ r'.own,b ∈ r.own \/ w.heap.size<=b:=fun b hb=>by
  simp only [Rd.own,List.mem_cons,List.not_mem_nil,or_false] at hb ⊢
  rcases hb with rfl | rfl
  . exact .inl (.inl hr)
  rcases hg with hg | hg
  . exact .inl (.inr hg)
  exact .inr hg
 have f1:∀ {p:Option Addr} {c:Nat} {l:List Int},Row w 0 p c l -> ∀ b o,p=some ⟨b,o,none⟩->b ∉ r.own->b ∉ r'.own:=fun hR b o e hn hm=>by
  rcases own b hm with hm | hm
  . exact hn hm
  have:=hR.lt e;omega
 exact
  { toRW:=h'
    own0:=fun b hb=>by
     rcases own b hb with hm | hm
     . exact h.own0 b hm
     omega
    ext0:=But.toExt h.ext0 k h.own0
    r1:=h.r1.but_ k (fun b o e=>(h.n1 b o e).2)
    r2:=h.r2.but_ k (fun b o e=>(h.n2 b o e).2)
    n1:=fun b o e=>⟨(h.n1 b o e).1,f1 h.r1 b o e (h.n1 b o e).2⟩
    n2:=fun b o e=>⟨(h.n2 b o e).1,f1 h.r2 b o e (h.n2 b o e).2⟩
    n12:=h.n12
    sp0:=by rw [hp];show 0 < S'.sizes.length->_;rw [es];exact h.sp0
    op0:=by rw [ho];show 0 < S'.order.length->_;rw [eo];exact h.op0 }
theorem turned (h:PlAt wb w r s p1 k1 p2 k2) (k:RNow w w' r S') (es:S'.sizes=s.S.sizes) (eo:S'.order=s.S.order):PlAt wb w' r { s with S:=S' } p1 k1 p2 k2:=
 h.turn k.but k.toRW rfl (.inl rfl) rfl rfl es eo
theorem ats_ (h:PlAt wb w r s p1 k1 p2 k2) (hb:∀ b o,p1=some ⟨b,o,none⟩->b < base) (ho:∀ b ∈ r.own,b < base) (hB:wb.heap.size<=base) (hR:Row w base p c l):PlAt wb w r { s with ats:=l } p1 k1 p c:=
 { h with
   r2:=hR.base0
   n2:=fun b o e=>by
    have:=hR.far e;exact ⟨by omega,fun hm=>by have:=ho b hm;omega⟩
   n12:=fun b o b' o' e e'=>by
    have:=hb b o e;have:=hR.far e';omega }
theorem grow_ (h:PlAt wb w r s p1 k1 p2 k2) {g:Nat} {row:Option Nat} (hG:w.grownBy w' row) (hrow:∀ q,row=some q->p1=some ⟨q,0,none⟩ \/ p2=some ⟨q,0,none⟩):RW w' r s.S/\Ext wb w':=by
 have kb:But row.toList w w':=⟨hG.os,hG.tape,hG.output,hG.size,fun i hi hn=>hG.block i hi (fun e=>hn (by rw [<- e];simp))⟩
 have mem:∀ b ∈ row.toList,wb.heap.size<=b/\b ∉ r.own:=fun b hm=>by
  have e:row=some b:=by simpa using hm
  rcases hrow b e with e | e
  . exact h.n1 b 0 e
  exact h.n2 b 0 e
 refine ⟨h.toRW.but' kb (fun hm=>(mem _ hm).2 r.rb_own) (fun hm=>(mem _ hm).2 r.gb_own) (fun h0 b o e hm=>by have:=(mem b hm).1;have:=h.sp0 h0 b o e;omega) (fun h0 b o e hm=>by have:=(mem b hm).1;have:=h.op0 h0 b o e;omega), ?_⟩
 exact But.toExt h.ext0 kb fun b hb=>(mem b hb).1
theorem grow1 (h:PlAt wb w r s p1 k1 p2 k2) {row:Option Nat} (hR:Row w' 0 (some ⟨g,0,none⟩) cap l) (hG:w.grownBy w' row) (hrow:∀ q,row=some q->p1=some ⟨q,0,none⟩) (hg:p1=some ⟨g,0,none⟩ \/ g=w.heap.size) :
    PlAt wb w' r { s with res:=l } (some ⟨g,0,none⟩) cap p2 k2:=by
  obtain ⟨a1,a2⟩:=h.grow_ (g:=g) hG (fun q e=>.inl (hrow q e));have own:=h.toRW.own_lt;have e0:=h.le0;have kb:But row.toList w w':=⟨hG.os,hG.tape,hG.output,hG.size,fun i hi hn=>hG.block i hi (fun e=>hn (by rw [<- e];simp))⟩
  exact
   { toRW:=a1,own0:=h.own0,ext0:=a2,r1:=hR
     r2:=h.r2.but_ kb (fun b o e hm=>by
      have e':row=some b:=by simpa using hm
      exact h.n12 b 0 b o (hrow b e') e rfl)
     n1:=fun b o e=>by
      cases e
      rcases hg with hg | hg
      . exact h.n1 g 0 hg
      exact ⟨by omega,fun hm=>by have:=own g hm;omega⟩
     n2:=h.n2
     n12:=fun b o b' o' e e'=>by
      cases e
      rcases hg with hg | hg
      . exact h.n12 g 0 b' o' hg e'
      have:=h.r2.lt e';omega
     sp0:=h.sp0,op0:=h.op0 }
theorem grow2 (h:PlAt wb w r s p1 k1 p2 k2) {row:Option Nat} (hR:Row w' 0 (some ⟨g,0,none⟩) cap l) (hG:w.grownBy w' row) (hrow:∀ q,row=some q->p2=some ⟨q,0,none⟩) (hg:p2=some ⟨g,0,none⟩ \/ g=w.heap.size) :
    PlAt wb w' r { s with ats:=l } p1 k1 (some ⟨g,0,none⟩) cap:=by
  obtain ⟨a1,a2⟩:=h.grow_ (g:=g) hG (fun q e=>.inr (hrow q e));have own:=h.toRW.own_lt;have e0:=h.le0;have kb:But row.toList w w':=⟨hG.os,hG.tape,hG.output,hG.size,fun i hi hn=>hG.block i hi (fun e=>hn (by rw [<- e];simp))⟩
  exact
   { toRW:=a1,own0:=h.own0,ext0:=a2,r2:=hR
     r1:=h.r1.but_ kb (fun b o e hm=>by
      have e':row=some b:=by simpa using hm
      exact h.n12 b o b 0 e (hrow b e') rfl)
     n2:=fun b o e=>by
      cases e
      rcases hg with hg | hg
      . exact h.n2 g 0 hg
      exact ⟨by omega,fun hm=>by have:=own g hm;omega⟩
     n1:=h.n1
     n12:=fun b o b' o' e e'=>by
      cases e'
      rcases hg with hg | hg
      . exact h.n12 b o g 0 e hg
      have:=h.r1.lt e;omega
     sp0:=h.sp0,op0:=h.op0 }
end PlAt
theorem wpList_append_row {w:World} {ops:Array Oper} {rest:List Oper} {o:Oper} {a:Act} {Q:Exit->Act->World->Prop} (hgd:o.guard=none) (s x:Operand)
    (ho:o.op = .call { callee:=.builtin .append,args:=#[s,x],argTypes:=#[22,22] }) {c b:Nat} {p:Option Addr} {l:List Int} {y:Int} (hs:a.eval s = .slice p l.length c) (hx:a.eval x = .slice (some ⟨b,0,none⟩) 1 1)
    (hrow:Row w 0 p c l) (hy:w.cell? ⟨b,0,none⟩=some (.int .i64 y)) (hy1 : -9223372036854775808<=y) (hy2:y<=9223372036854775807) (hlen:l.length < 10000000)
    (h:∀ g cap w' row,Row w' 0 (some ⟨g,0,none⟩) cap (l ++ [y])->w.grownBy w' row->(∀ r,row=some r->p=some ⟨r,0,none⟩)->(p=some ⟨g,0,none⟩ \/ g=w.heap.size)->wpList Tryz.prog ops Q rest (a.put o.dst (.slice (some ⟨g,0,none⟩) (l.length+1) cap)) w'):wpList Tryz.prog ops Q (o :: rest) a w:=by
  obtain ⟨i0,hi,hz0,hz1,hz2⟩:=info_parts (show (Tryz.prog.info? 3).map (fun i=>(i.zero,i.size,i.bytes))=some (some (.int .i64 0),1,8) from by kernel_rfl);refine wpList_append_lies w hgd s x 22 ho 0 3 i0 (.int .i64 0) 1 8 Tryz.underlying22 hi hz0 hz1 hz2 rfl (by decide) _ _ _ hs hrow.1 ⟨b,0,none⟩ 1 1 [.int .i64 y] hx (by simp) (fun j u hj=>?_) (by simp [Value.oneCell']) (by omega) (by unfold maxLen;omega) (by omega) (Nat.zero_le _) _ rfl ?_
  . cases j with
    | zero=>
     simp at hj;subst hj;rw [Addr.add_lit];exact hy
    | succ j=>simp at hj
  intro g cap w' hown hgrow hor _;have own:=row_own hrow;refine h g cap w' _ ⟨by simpa [ints] using hown,fun z hz=>?_⟩ hgrow own (hor.imp (own g) id)
  rcases List.mem_append.1 hz with hz | hz
  . exact hrow.2 z hz
  have:z=y:=by simpa using hz
  subst this;exact ⟨hy1,hy2⟩
open Go.RowKit Go.Maps
theorem wpList_append_rowN {w:World} {ops:Array Oper} {rest:List Oper} {o:Oper} {a:Act} {Q:Exit->Act->World->Prop} (hgd:o.guard=none) (s x:Operand)
    (ho:o.op = .call { callee:=.builtin .append,args:=#[s,x],argTypes:=#[22,22] }) {c b n:Nat} {p:Option Addr} {l:List Int} {y:Int} (hn:l.length=n) (hs:a.eval s = .slice p n c) (hx:a.eval x = .slice (some ⟨b,0,none⟩) 1 1)
    (hrow:Row w 0 p c l) (hy:w.cell? ⟨b,0,none⟩=some (.int .i64 y)) (hy1 : -9223372036854775808<=y) (hy2:y<=9223372036854775807) (hlen:n < 10000000)
    (h:∀ g cap w' row,Row w' 0 (some ⟨g,0,none⟩) cap (l ++ [y])->w.grownBy w' row->(∀ r,row=some r->p=some ⟨r,0,none⟩)->(p=some ⟨g,0,none⟩ \/ g=w.heap.size)->wpList Tryz.prog ops Q rest (a.put o.dst (.slice (some ⟨g,0,none⟩) (n+1) cap)) w'):wpList Tryz.prog ops Q (o :: rest) a w:=by
  subst hn;exact wpList_append_row hgd s x ho hs hx hrow hy hy1 hy2 hlen h
def RPlayPost (wb:World) (rb:Nat) (s':Hp.Sc) (e:Ending) (w':World):Prop:=
 ∃ p c,∃ r:Rd,e = .returned (.slice p s'.res.length c)/\SliceAt w' p c s'.res/\RW w' r s'.S/\r.rb=rb/\(∀ b ∈ r.own,wb.heap.size<=b)/\Ext wb w'
theorem good_of {x:Hp.Act'} (h:Hp.Good s.S B) (hB:B < 100000) (hf:0<=x.fault) (hd:s.do' x=some s1):Hp.Good s1.S (B+1)/\Hp.Grown s.S s1.S:=by
 obtain ⟨s2,e,h1,h2⟩:=Hp.do_good h hB x hf
 rw [hd] at e
 cases e
 exact ⟨h1,h2⟩
theorem rKept_at {p3:Option Addr} {c1 c2 c3 yl pl:Nat} {Y P AT:List Int} (h1:SliceAt w p1 c1 A) (h2:SliceAt w p2 c2 Y) (h3:SliceAt w p3 c3 P) (hA:A.length=j) (hj:j<=1000000) (hY:Y.length=yl) (hP:P.length=pl) (hpl:pl<=1000000) (hAT:A.map (Hp.keptF Y P)=AT) :
    Calls Tryz.prog 95 #[.slice p1 j c1,.slice p2 yl c2,.slice p3 pl c3] w fun e w'=>∃ p c,e = .returned (.slice p j c)/\Row w' w.heap.size p c AT/\Ext w w':=by
  have K:=rKept h1 h2 h3 (by omega) (by omega);rw [hA,hY,hP,hAT] at K;refine K.mono ?_;rintro e w' ⟨p,c,rfl,hR,hE⟩;exact ⟨p,c,by rw [<- hAT,List.length_map,hA],hR,hE⟩
theorem collected_small {S1:Hp.Hs} {cm:Nat} {ch:Nat->List Nat} (hw:Hp.Wf S B L ch) (hT:S.live=some T) (hco:S.collect=some (cm,S1)):cm<=100000:=by
 obtain ⟨S',L',e,_⟩:=Hp.collect_wf hw hT
 rw [hco] at e
 simp only [Option.some.injEq,Prod.mk.injEq] at e
 have:=List.length_filter_le (fun a=>!T.contains a) S.taken
 have:=hw.few
 have:=hw.hi
 omega
theorem collected_wf {S1:Hp.Hs} {cm:Nat} {ch:Nat->List Nat} (hw:Hp.Wf S B L ch) (hT:S.live=some T) (hco:S.collect=some (cm,S1)):∃ L1 ch1,Hp.Wf S1 B L1 ch1:=by
 obtain ⟨S',L',e,_,hw'⟩:=Hp.collect_wf hw hT
 rw [hco] at e
 simp only [Option.some.injEq,Prod.mk.injEq] at e
 obtain ⟨_,rfl⟩:=e
 exact ⟨_,_,hw'⟩
theorem natsI_length (Y:List Nat):(Hp.natsI Y).length=Y.length:=Hp.natsI_len Y
theorem slice_nil (w:World):SliceAt w none 0 []:=(Row.nil w 0).at_
set_option maxRecDepth 100000 in
set_option maxHeartbeats 16000000 in
theorem rPlay {wb:World} {B0:Nat} (h:RW w r S) (hg:Hp.Good S B0) (hB:B0<=90000) (own:∀ b ∈ r.own,wb.heap.size<=b) (ext:Ext wb w) (sp0:0 < S.sizes.length -> ∀ b o,r.sp=some ⟨b,o,none⟩->b < wb.heap.size) (op0:0 < S.order.length -> ∀ b o,r.op=some ⟨b,o,none⟩->b < wb.heap.size)
    {pa:Option Addr} {ca:Nat} {acts:List Hp.Act'} (ha:ActsAt wb pa ca acts) (hal:acts.length<=300) {s':Hp.Sc} (hr:Hp.Sc.play ⟨S,[],[]⟩ acts=some s') :
    Calls Tryz.prog 33 #[.pointer (some ⟨r.rb,0,none⟩),.slice pa acts.length ca] w (RPlayPost wb r.rb s'):=by
  have N0:Hid (PlAt wb w r ⟨S,[],[]⟩ none 0 none 0):=hZ
   { toRW:=h,own0:=own,ext0:=ext,r1:=(Row.nil w 0).base0,r2:=(Row.nil w 0).base0
     n1:=fun b o e=>by cases e
     n2:=fun b o e=>by cases e
     n12:=fun b o b' o' e=>by cases e
     sp0:=sp0,op0:=op0 }
  have HA:=hZ ha;have le:=ha.le;have cap:=ha.cap;have OK0:=hZ (show ScOk ⟨S,[],[]⟩ 0 from ⟨rfl,rfl,by simp⟩);have HR0:=hZ (show Hp.Sc.play ⟨S,[],[]⟩ (acts.drop 0)=some s' from hr);have GD0:=hZ (show Hp.Good S (B0+0) from hg);obtain ⟨m,hm⟩:∃ m,acts.length=m:=⟨_,rfl⟩
  have HM:=hZ hm;obtain ⟨rb,hrb⟩:∃ rb,r.rb=rb:=⟨_,rfl⟩
  have RB0:=hZ hrb;rw [hm] at le hal ⊢;rw [hrb];clear h hg own ext sp0 op0 ha hr hm hrb;go_enter Tryz.func33,Tryz.ntmps33
  go_wp2_with fail
  go_loopg [5,6,7] m (fun g' v5 v6 v7 wr=>∃ (j:Nat) (s:Hp.Sc) (rr:Rd) (p1:Option Addr) (k1:Nat) (p2:Option Addr) (k2:Nat),j<=m/\m-j<=g'/\v5 = .slice p1 j k1/\v6 = .slice p2 j k2/\v7 = .int .i64 j/\Hid (rr.rb=rb)/\Hid (PlAt wb wr rr s p1 k1 p2 k2)/\Hid (Hp.Sc.play s (acts.drop j)=some s')/\Hid (ScOk s j)/\Hid (Hp.Good s.S (B0+j)))
  case atStart=>exact ⟨0,_,r,none,0,none,0,Nat.zero_le _,by omega,rfl,rfl,rfl,RB0,N0,HR0,OK0,GD0⟩
  case round=>
   obtain ⟨j,s,rr,p1,k1,p2,k2,hj,hg,rfl,rfl,rfl,HRB,N,HP,OK,GD⟩:=hrel;clear N0 HR0 OK0 GD0 RB0;have hrb:=HRB.out;clear HRB;subst hrb
   by_cases hlt:j < m
   . obtain ⟨x,hx⟩:∃ x,acts[j]? = some x:=⟨acts[j]'(by rw [HM.out];exact hlt),List.getElem?_eq_getElem _⟩
     obtain ⟨b,o,rfl,hb,hc⟩:=HA.out.cells (by rw [HM.out];omega);obtain ⟨q',c',f,ok,d0,d1,d2,d3,d4,hs⟩:=hc j x hx;have hs:=hs.ext N.out.ext0;have a0:=(N.out.ext0.cell hb _).trans d0;have a1:=(N.out.ext0.cell hb _).trans d1;have a2:=(N.out.ext0.cell hb _).trans d2;have a3:=(N.out.ext0.cell hb _).trans d3;have a4:=(N.out.ext0.cell hb _).trans d4;have D0:=hZ d0;clear d0 d1 d2 d3 d4;have tk:decide ((j:Int) < (m:Int))=true:=dT;have HOK:=hZ ok;have HS:=hZ hs;have hp2:=HP.out;rw [List.drop_eq_getElem_cons (by rw [HM.out];exact hlt)] at hp2;have hxe:acts[j]'(by rw [HM.out];exact hlt)=x:=by
      have:=hx;rw [List.getElem?_eq_getElem (by rw [HM.out];exact hlt)] at this;exact Option.some.inj this
     rw [hxe] at hp2;simp only [Hp.Sc.play,Option.bind_eq_bind,Option.bind_eq_some_iff] at hp2;obtain ⟨s1,hdo,hrest⟩:=hp2;have HREST:=hZ hrest;have OK1:=hZ (OK.out.do' hdo);obtain ⟨gd1,gr1⟩:=good_of GD.out (by omega) (show 0<=x.fault by have:=ok.fault;omega) hdo;have GD1:=hZ (show Hp.Good s1.S (B0+(j+1)) from gd1);clear hc hx ok hs hrest hxe HP gd1;obtain ⟨L,ch,hw⟩:=GD.out;have SA:=hZ N.out.r2.at_;have ba1:(-9223372036854775808:Int)<=0:=by decide
     have ba2:(0:Int)<=9223372036854775807:=by decide
     by_cases h6:x.kind=6
     . obtain ⟨cm,S1,hco,rfl⟩:=Hp.do_six hdo h6;obtain ⟨TL,hT⟩:=Hp.live_total hw;have es:s.S.sizes=s.S.sizes:=rfl;have eo:s.S.order=s.S.order:=rfl;have E1:=hZ (show S1.sizes=s.S.sizes from gr1.sizes);have E2:=hZ (show S1.order=s.S.order from gr1.order);have hll:=Hp.live_left hw hT hco;have LL:=hZ hll;have CD:=rdo_any N.out.toRW hw HOK.out SA.out HS.out (Hp.rdo_67 (S:=s.S) (A:=s.ats) (.inl h6));unfold actV at CD;rw [OK.out.ats,h6] at CD;rw [h6] at a0 D0;have CD:=hZ CD;have LV:=hZ (fun W (hW:RAt W rr s.S)=>rLive hW hw hT);have CO:=hZ (fun W (hW:RW W rr s.S)=>rCollect hW hw hco);have cb:=collected_small hw hT hco;have bn1:(-9223372036854775808:Int)<=(cm:Int):=by omega
       have bn2:(cm:Int)<=9223372036854775807:=by omega
       have LA:((s.ats.map fun a=>if S1.has a then a else 0)).length=j:=by rw [List.length_map,OK.out.ats]
       have HLA:=hZ LA;have z0:=N.out.le0;clear hdo gr1 hll hT hco cb hw LA
       go_wp2_with (first
        | (go_at_call 94;refine CD.out.mono ?_;rintro e3 w3 ⟨rfl,hN3⟩;have N3:=hZ (N.out.turned hN3 es eo);have a0':=(N3.out.ext0.cell hb _).trans D0.out;clear hN3)
        | (go_at_call 83;refine (LV.out _ N3.out.toRW.at_).mono ?_;rintro e4 w4 ⟨Y,p4,c4,b4,rfl,hb4,hR4,hE4,hY,hYl⟩;have N4:=hZ (N3.out.ext hE4);have HY:=hZ (fun a=>(hY a).trans (LL.out a));have R4:=hZ hR4;have B4:=hZ hb4;clear hY hYl hR4 hb4)
        | (go_at_call 95;refine (rKept_at N4.out.r2.at_ R4.out.at_ (slice_nil _) OK.out.ats (by omega) (natsI_length Y) (show ([]:List Int).length=0 from rfl) (by decide) (Hp.kept_six HY.out s.ats)).mono ?_;rintro e5 w5 ⟨p5,c5,rfl,hR5,hE5⟩;have N5:=hZ (PlAt.ats_ (N4.out.ext hE5) (fun b o e=>N4.out.r1.lt e) N4.out.toRW.own_lt N4.out.le0 hR5);clear hR5)
        | (go_at_call 96;refine (CO.out _ N5.out.toRW).mono ?_;rintro e6 w6 ⟨rfl,hN6⟩;have N6:=hZ (N5.out.turned hN6 E1.out E2.out);clear hN6)
        | (at_builtin;refine wpList_append_rowN rfl _ _ rfl (n:=j) OK.out.res rfl rfl (N6.out.ext (Ext.alloc (Ext.refl _) _)).r1 (by go_simp) bn1 bn2 (by omega) ?_;intro g7 c7 w7 row7 hR7 hG7 hr7 hg7;have N7:=hZ ((N6.out.ext (Ext.alloc (Ext.refl _) _)).grow1 hR7 hG7 hr7 hg7);clear hR7 hG7 hr7 hg7)
        | (at_builtin;refine wpList_append_rowN rfl _ _ rfl (n:=j) HLA.out rfl rfl (N7.out.ext (Ext.alloc (Ext.refl _) _)).r2 (by go_simp) ba1 ba2 (by omega) ?_;intro g8 c8 w8 row8 hR8 hG8 hr8 hg8;have N8:=hZ ((N7.out.ext (Ext.alloc (Ext.refl _) _)).grow2 hR8 hG8 hr8 hg8);clear hR8 hG8 hr8 hg8))
       go_roundg (m-(j+1))
       case measure=>omega
       case rel=>exact ⟨j+1,_,rr,_,_,_,_,by omega,Nat.le_refl _,rfl,rfl,by go_num,hZ rfl,N8,HREST,OK1,GD1⟩
     by_cases h7:x.kind=7
     . obtain ⟨cm,S1,M,S2,hco,hmv,rfl⟩:=Hp.do_seven hdo h7;obtain ⟨TL,hT⟩:=Hp.live_total hw;have es:s.S.sizes=s.S.sizes:=rfl;have eo:s.S.order=s.S.order:=rfl;have E1:=hZ (show S2.sizes=s.S.sizes from gr1.sizes);have E2:=hZ (show S2.order=s.S.order from gr1.order);have hll:=Hp.live_left hw hT hco;have LL:=hZ hll;obtain ⟨L1,ch1,hw1⟩:=collected_wf hw hT hco;have few1:=hw1.few;have hi1:=hw1.hi;have HW1:=hZ hw1;have CD:=rdo_any N.out.toRW hw HOK.out SA.out HS.out (Hp.rdo_67 (S:=s.S) (A:=s.ats) (.inr h7));unfold actV at CD;rw [OK.out.ats,h7] at CD;rw [h7] at a0 D0;have CD:=hZ CD;have LV:=hZ (fun W (hW:RAt W rr s.S)=>rLive hW hw hT);have CO:=hZ (fun W (hW:RW W rr s.S)=>rCompact hW hw hco hmv);have bn1:=ba1;have bn2:=ba2;have LA:((s.ats.map fun a=>if S1.has a then a else 0).map fun a=>if a < 0 then 0 else (getI a.toNat M).getD 0).length=j:=by rw [List.length_map,List.length_map,OK.out.ats]
       have HLA:=hZ LA;have z0:=N.out.le0;clear hdo gr1 hll hT hco hmv hw hw1 LA
       go_wp2_with (first
        | (go_at_call 94;refine CD.out.mono ?_;rintro e3 w3 ⟨rfl,hN3⟩;have N3:=hZ (N.out.turned hN3 es eo);have a0':=(N3.out.ext0.cell hb _).trans D0.out;clear hN3)
        | (go_at_call 83;refine (LV.out _ N3.out.toRW.at_).mono ?_;rintro e4 w4 ⟨Y,p4,c4,b4,rfl,hb4,hR4,hE4,hY,hYl⟩;have N4:=hZ (N3.out.ext hE4);have HY:=hZ (fun a=>(hY a).trans (LL.out a));have R4:=hZ hR4;have B4:=hZ hb4;clear hY hYl hR4 hb4)
        | (go_at_call 97;refine (CO.out _ N4.out.toRW).mono ?_;rintro e6 w6 ⟨mv,p6,c6,b6,g6,rfl,hb6,hR6,hg6,hW6,hK6,hM6⟩;have R6:=hZ hR6.at_;have Y6:=hZ (R4.out.at_.but hK6 (fun b o e hm=>by have h1:=R4.out.far e;have h2:=N3.out.toRW.own_lt b hm;have h3:=B4.out;omega));have N6:=hZ (N4.out.turn hK6 hW6 rfl (.inr hg6) rfl rfl E1.out E2.out);have M6:=hZ hM6;clear hb6 hR6 hg6 hW6 hK6 hM6)
        | (go_at_call 95;refine (rKept_at N6.out.r2.at_ Y6.out R6.out OK.out.ats (by omega) (natsI_length Y) rfl (by have:=Hp.pairs_len (m:=mv) (T:=S1.taken);omega) (Hp.kept_seven HW1.out M6.out HY.out s.ats)).mono ?_;rintro e5 w5 ⟨p5,c5,rfl,hR5,hE5⟩;have N5:=hZ (PlAt.ats_ (N6.out.ext hE5) (fun b o e=>N6.out.r1.lt e) N6.out.toRW.own_lt N6.out.le0 hR5);clear hR5)
        | (at_builtin;refine wpList_append_rowN rfl _ _ rfl (n:=j) OK.out.res rfl rfl (N5.out.ext (Ext.alloc (Ext.refl _) _)).r1 (by go_simp) bn1 bn2 (by omega) ?_;intro g7 c7 w7 row7 hR7 hG7 hr7 hg7;have N7:=hZ ((N5.out.ext (Ext.alloc (Ext.refl _) _)).grow1 hR7 hG7 hr7 hg7);clear hR7 hG7 hr7 hg7)
        | (at_builtin;refine wpList_append_rowN rfl _ _ rfl (n:=j) HLA.out rfl rfl (N7.out.ext (Ext.alloc (Ext.refl _) _)).r2 (by go_simp) ba1 ba2 (by omega) ?_;intro g8 c8 w8 row8 hR8 hG8 hr8 hg8;have N8:=hZ ((N7.out.ext (Ext.alloc (Ext.refl _) _)).grow2 hR8 hG8 hr8 hg8);clear hR8 hG8 hr8 hg8))
       go_roundg (m-(j+1))
       case measure=>omega
       case rel=>exact ⟨j+1,_,{ rr with gb:=g6,wc:=S2.words.length },_,_,_,_,by omega,Nat.le_refl _,rfl,rfl,by go_num,hZ rfl,N8,HREST,OK1,GD1⟩
     obtain ⟨n,na,e0,S1,hrd,rfl⟩:=Hp.rdo_of hdo h6 h7;have es:S1.sizes=s.S.sizes:=gr1.sizes;have eo:S1.order=s.S.order:=gr1.order;have hbd:=rdo_bound (by have:=hw.hi;omega) SA.out.wf hrd;have CD:=rdo_any N.out.toRW hw HOK.out SA.out HS.out hrd;unfold actV at CD;rw [OK.out.ats] at CD;have CD:=hZ CD;have LA:=OK.out.ats;have HLA:=hZ LA;clear hdo gr1 hrd hw LA
     by_cases he0:e0=0
     . subst he0;have bn1:=hbd.1.1;have bn2:=hbd.1.2;have ba1:=hbd.2.1.1;have ba2:=hbd.2.1.2;have OK1:=hZ (show ScOk ⟨S1,s.res ++ [n],s.ats ++ [na]⟩ (j+1) from OK1.out);have HREST:=hZ (show Hp.Sc.play ⟨S1,s.res ++ [n],s.ats ++ [na]⟩ (acts.drop (j+1))=some s' from HREST.out);have t6:(x.kind == 6)=false:=by simpa using h6
       have t7:(x.kind == 7)=false:=by simpa using h7
       clear hbd
       go_wp2_with (first
        | (go_at_call 94;refine CD.out.mono ?_;rintro e3 w3 ⟨rfl,hN3⟩;have N3:=hZ (N.out.turned hN3 es eo);have a0':=(N3.out.ext0.cell hb _).trans D0.out;clear hN3)
        | (at_builtin;refine wpList_append_rowN rfl _ _ rfl (n:=j) OK.out.res rfl rfl (N3.out.ext (Ext.alloc (Ext.refl _) _)).r1 (by go_simp) bn1 bn2 (by omega) ?_;intro g7 c7 w7 row7 hR7 hG7 hr7 hg7;have N7:=hZ ((N3.out.ext (Ext.alloc (Ext.refl _) _)).grow1 hR7 hG7 hr7 hg7);clear hR7 hG7 hr7 hg7)
        | (at_builtin;refine wpList_append_rowN rfl _ _ rfl (n:=j) HLA.out rfl rfl (N7.out.ext (Ext.alloc (Ext.refl _) _)).r2 (by go_simp) ba1 ba2 (by omega) ?_;intro g8 c8 w8 row8 hR8 hG8 hr8 hg8;have N8:=hZ ((N7.out.ext (Ext.alloc (Ext.refl _) _)).grow2 hR8 hG8 hr8 hg8);clear hR8 hG8 hr8 hg8))
       go_roundg (m-(j+1))
       case measure=>omega
       case rel=>exact ⟨j+1,_,rr,_,_,_,_,by omega,Nat.le_refl _,rfl,rfl,by go_num,hZ rfl,N8,HREST,OK1,GD1⟩
     have bn1:(-9223372036854775808:Int) <= -e0:=by omega
     have bn2 : -e0<=9223372036854775807:=by omega
     have OK1:=hZ (show ScOk ⟨S1,s.res ++ [-e0],s.ats ++ [0]⟩ (j+1) by have:=OK1.out;rw [if_pos he0,if_pos he0] at this;exact this);have HREST:=hZ (show Hp.Sc.play ⟨S1,s.res ++ [-e0],s.ats ++ [0]⟩ (acts.drop (j+1))=some s' by have:=HREST.out;rw [if_pos he0,if_pos he0] at this;exact this);have t8:(e0 != 0)=true:=by simpa using he0
     have t9:(e0 == 0)=false:=by simpa using he0
     have wn:IntKind.i64.wrap (-e0) = -e0:=IntWalk.i64_in _ (by omega);clear hbd
     go_wp2_with (first
      | (go_at_call 94;refine CD.out.mono ?_;rintro e3 w3 ⟨rfl,hN3⟩;have N3:=hZ (N.out.turned hN3 es eo);have a0':=(N3.out.ext0.cell hb _).trans D0.out;clear hN3)
      | (at_builtin;refine wpList_append_rowN rfl _ _ rfl (n:=j) OK.out.res rfl rfl (N3.out.ext (Ext.alloc (Ext.refl _) _)).r1 (by go_simp) bn1 bn2 (by omega) ?_;intro g7 c7 w7 row7 hR7 hG7 hr7 hg7;have N7:=hZ ((N3.out.ext (Ext.alloc (Ext.refl _) _)).grow1 hR7 hG7 hr7 hg7);clear hR7 hG7 hr7 hg7)
      | (at_builtin;refine wpList_append_rowN rfl _ _ rfl (n:=j) HLA.out rfl rfl (N7.out.ext (Ext.alloc (Ext.refl _) _)).r2 (by go_simp) ba1 ba2 (by omega) ?_;intro g8 c8 w8 row8 hR8 hG8 hr8 hg8;have N8:=hZ ((N7.out.ext (Ext.alloc (Ext.refl _) _)).grow2 hR8 hG8 hr8 hg8);clear hR8 hG8 hr8 hg8))
     go_roundg (m-(j+1))
     case measure=>omega
     case rel=>exact ⟨j+1,_,rr,_,_,_,_,by omega,Nat.le_refl _,rfl,rfl,by go_num,hZ rfl,N8,HREST,OK1,GD1⟩
   have:j=m:=by omega
   subst this;have tk:decide ((j:Int) < (j:Int))=false:=dF;have hp2:=HP.out;rw [List.drop_of_length_le (by rw [HM.out];exact Nat.le_refl _)] at hp2;obtain rfl:s=s':=by simpa [Hp.Sc.play] using hp2
   go_wp2_with fail
   go_returns;exact ⟨p1,k1,rr,by rw [OK.out.res];rfl,N.out.r1.at_.ext exx,N.out.toRW.ext exx,rfl,N.out.own0,N.out.ext0.trans exx⟩
end Go.Proofs.YtdokmmhjmclmnaaGreat
