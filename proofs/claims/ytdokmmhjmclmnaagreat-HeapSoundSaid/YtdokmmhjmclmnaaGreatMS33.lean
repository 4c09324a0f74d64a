/-
  Part 33 of a proof: LH17 LH18 LH19 LH20.
-/
import Derived.Test.YtdokmmhjmclmnaaGreatMS10
import Derived.Test.YtdokmmhjmclmnaaGreatMS22
import Derived.Test.YtdokmmhjmclmnaaGreatMS26
import Derived.Test.YtdokmmhjmclmnaaGreatMS28
import Derived.Test.YtdokmmhjmclmnaaGreatMS29
import Derived.Test.YtdokmmhjmclmnaaGreatMS31
import Derived.Test.YtdokmmhjmclmnaaGreatMS32
set_option linter.unusedSimpArgs false
set_option linter.unusedVariables false
set_option linter.unusedSectionVars false
set_option linter.unnecessarySimpa false
namespace Go.Proofs.YtdokmmhjmclmnaaGreat
variable {W' w w' w0:World} {B a b base c ca cap f g i j k k1 k2 lb n oc qc sb sc:Nat} {choice e t x:Int} {A V W fs l o z:List Int} {D T Y:List Nat} {op p p1 p2 pa q sp:Option Addr} {d:Hd} {S S':Hp.Hs} {r:Rd} {L:List Hp.Tl} {M:List (Nat × Int)} {s s' s1:Hp.Sc} {acts:List Hp.Act'} {c0 c1:Value}
open Go.RowKit Go.Maps
theorem But.over {l l':List Nat} {a b c:World} (h:But l a b) (k:But l' b c) (hl:∀ x ∈ l',x ∈ l \/ a.heap.size<=x):But l a c:=
 ⟨k.os.trans h.os,k.tape.trans h.tape,k.output.trans h.output,Nat.le_trans h.size k.size,fun i hi hn=>(k.block i (Nat.lt_of_lt_of_le hi h.size) (fun hm=>by
  rcases hl i hm with hm | hm
  . exact hn hm
  . omega)).trans (h.block i hi hn)⟩
structure DoAt (wb w:World) (d0 d:Hd) (S:Hp.Hs) (A:List Int) (p:Option Addr) (k:Nat):Prop extends HAt w d S where
 but0:But d0.own wb w
 own0:∀ b ∈ d.own,b ∈ d0.own \/ wb.heap.size<=b
 row:Row w 0 p k A
 n:∀ b o,p=some ⟨b,o,none⟩->wb.heap.size<=b/\b ∉ d.own
 spn:∀ b o,d.sp=some ⟨b,o,none⟩->b < wb.heap.size
 opn:∀ b o,d.op=some ⟨b,o,none⟩->b < wb.heap.size
namespace DoAt
variable {wb w w':World} {d0 d:Hd} {S:Hp.Hs} {A:List Int} {p:Option Addr} {k:Nat}
theorem ext (h:DoAt wb w d0 d S A p k) (e:Ext w w'):DoAt wb w' d0 d S A p k:=
 { h with
   toHAt:=h.toHAt.ext e
   but0:=h.but0.ext e
   row:=h.row.ext e }
theorem turn (h:DoAt wb w d0 d S A p k) (hb:But d.own w w') (hA:HAt w' { d with gw:=g,cap:=cap } S') (hg:g=d.gw \/ w.heap.size<=g):DoAt wb w' d0 { d with gw:=g,cap:=cap } S' A p k:=by
 have e0:=h.but0.size
 have own:∀ b ∈ ({ d with gw:=g,cap:=cap }:Hd).own,b ∈ d.own \/ w.heap.size<=b:=fun b hb=>by
  simp only [Hd.own,List.mem_cons,List.not_mem_nil,or_false] at hb ⊢
  rcases hb with rfl | rfl | rfl
  . exact .inl (.inl rfl)
  . rcases hg with rfl | hg
    . exact .inl (.inr (.inl rfl))
    exact .inr hg
  exact .inl (.inr (.inr rfl))
 exact
  { toHAt:=hA
    but0:=h.but0.over hb h.own0
    own0:=fun b hb=>by
     rcases own b hb with hm | hm
     . exact h.own0 b hm
     exact .inr (by omega)
    row:=h.row.but_ hb (fun b o e=>(h.n b o e).2)
    n:=fun b o e=>⟨(h.n b o e).1,fun hm=>by
     rcases own b hm with hm | hm
     . exact (h.n b o e).2 hm
     . have:=h.row.lt e;omega⟩
    spn:=h.spn
    opn:=h.opn }
theorem rowed (h:DoAt wb w d0 d S A p k) {l:List Nat} (hb:But l w w') (hl:∀ b ∈ l,wb.heap.size<=b/\b ∉ d.own):HAt w' d S/\But d0.own wb w':=by
 refine ⟨h.toHAt.but hb (fun hm=>(hl _ hm).2 d.hb_own) (fun hm=>(hl _ hm).2 d.gw_own) (fun hm=>(hl _ hm).2 d.gm_own) (fun b o e hm=>by have:=(hl b hm).1;have:=h.spn b o e;omega) (fun b o e hm=>by have:=(hl b hm).1;have:=h.opn b o e;omega), ?_⟩
 exact h.but0.over hb fun b hm=>.inr (hl b hm).1
theorem setAt (h:DoAt wb w d0 d S A p k) {v:Int} {A':List Int} (hp:p=some ⟨b,0,none⟩) (hw:Hp.wr A j v=some A') (h1 : -9223372036854775808<=v) (h2:v<=9223372036854775807) :
    DoAt wb (w.setCell ⟨b,j,none⟩ (.int .i64 v)) d0 d S A' p k:=by
  have hb:But [b] w (w.setCell ⟨b,j,none⟩ (.int .i64 v)):=(But.refl _ _).setCell (.inl (by simp)) _;obtain ⟨a1,a2⟩:=h.rowed hb (fun x hx=>by
   have:x=b:=by simpa using hx
   subst this;exact h.n x 0 hp)
  exact { toHAt:=a1,but0:=a2,own0:=h.own0,row:=h.row.set hp hw h1 h2,n:=h.n,spn:=h.spn,opn:=h.opn }
theorem grow (h:DoAt wb w d0 d S A p k) {row:Option Nat} (hR:Row w' 0 (some ⟨g,0,none⟩) cap l) (hG:w.grownBy w' row) (hrow:∀ q,row=some q->p=some ⟨q,0,none⟩) (hg:p=some ⟨g,0,none⟩ \/ g=w.heap.size) :
    DoAt wb w' d0 d S l (some ⟨g,0,none⟩) cap:=by
  have kb:But row.toList w w':=⟨hG.os,hG.tape,hG.output,hG.size,fun i hi hn=>hG.block i hi (fun e=>hn (by rw [<- e];simp))⟩
  have own:=h.toHAt.own_lt;obtain ⟨a1,a2⟩:=h.rowed kb (fun x hx=>by
   have e:row=some x:=by simpa using hx
   exact h.n x 0 (hrow x e))
  exact
   { toHAt:=a1,but0:=a2,own0:=h.own0,row:=hR,spn:=h.spn,opn:=h.opn
     n:=fun b o e=>by
      cases e
      rcases hg with hg | hg
      . exact h.n g 0 hg
      . have:=h.but0.size;exact ⟨by omega,fun hm=>by have:=own g hm;omega⟩ }
theorem now (h:DoAt wb w d0 d S A p k) (hN:Now w w' d S'):DoAt wb w' d0 d S' A p k:=h.turn (g:=d.gw) (cap:=d.cap) hN.but hN.toHAt (.inl rfl)
theorem with_ (h:DoAt wb w d0 d S A p k) {A':List Int} (e:A=A'):DoAt wb w d0 d S A' p k:=e ▸ h
end DoAt
def AtIs (w:World) (b:Bool) (e:Ending) (w':World):Prop:=∃ (x0:Int) (p:Option Addr) (m c:Nat) (f n:Int),e = .returned (.tuple #[.agg #[.int .i64 x0,.slice p m c],.agg #[.int .u8 f,.int .i64 n],.int .i64 (if b then 0 else 7)])/\Ext w w'
theorem At_is {ch:Nat->List Nat} {b:Bool} (hb:S.has x=b) (h:HAt w d S) (hw:Hp.Wf S B L ch) (h1 : -9223372036854775808<=x) (h2:x<=9223372036854775807) :
    Calls Tryz.prog 22 #[.pointer (some ⟨d.hb,0,none⟩),.int .i64 x] w (AtIs w b):=by
  cases b with
  | false=>
   refine (At_no h hb h1 h2).mono ?_;rintro e w' ⟨rfl,hE⟩;exact ⟨0,none,0,0,0,0,rfl,hE⟩
  | true=>
   obtain ⟨a,rfl,ha⟩:=Hp.has_yes hb
   cases he:Hp.isEnd (Hp.ow S.words a) with
   | true=>
    obtain ⟨f,hf⟩:∃ f:Nat,Hp.ow S.words a=20+f:=by
     simp only [Hp.isEnd,Hp.within,Bool.and_eq_true,decide_eq_true_eq] at he;exact ⟨(Hp.ow S.words a-20).toNat,by omega⟩
    refine (At_end_f h hw ha hf he).mono ?_;rintro e w' ⟨rfl,hE⟩;exact ⟨_,_,_,_,_,_,rfl,hE⟩
   | false=>
    refine (At_node_f h hw ha he).mono ?_;rintro e w' ⟨g,c,rfl,_,hE⟩;exact ⟨_,_,_,_,_,_,rfl,hE⟩
theorem Row.froz (h:Row w base p c l) (hp:p=some ⟨b,0,none⟩):w.frozen? ⟨b,j,none⟩=false:=by
 rcases h.1.2 with ⟨e,_⟩ | ⟨g,cap',cur,e,_,hgb,_⟩
 . injection e with e1
   rw [hp] at e1
   cases e1
 injection e with e1
 rw [hp] at e1
 cases e1
 simp [World.frozen?,hgb]
theorem Row.cell_ (h:Row w base p c l) (hp:p=some ⟨b,0,none⟩) (hx:Hp.rd l j=some x):w.cell? ⟨b,j,none⟩=some (.int .i64 x):=by
 subst hp
 have:=h.at_.cell_ hx
 rwa [Nat.zero_add] at this
def FollowPost (wb:World) (d0 d:Hd) (kd:Int) (S1 S2:Hp.Hs) (A1 A2:List Int) (p:Option Addr) (k:Nat) (e:Ending) (w':World):Prop:=
 e = .returned (.bool true)/\(kd=6->DoAt wb w' d0 d S1 A1 p k)/\(kd=7 -> ∃ g cap,DoAt wb w' d0 { d with gw:=g,cap:=cap } S2 A2 p k)
set_option maxRecDepth 100000 in
set_option maxHeartbeats 16000000 in
theorem lFollow {wb:World} {d0:Hd} {S1 S2:Hp.Hs} {cm:Nat} {ch:Nat->List Nat} {A1 A2:List Int} {kd:Int} (h:DoAt wb w d0 d S A p k) (hA:A.length<=1000) (hw:Hp.Wf S B L ch) (hco:S.collect=some (cm,S1)) (hk:kd=6 \/ kd=7) (hmv:kd=7->S1.moved=some (M,S2))
    (h1:(A.map fun a=>if S1.has a then a else 0)=A1) (h2:kd=7->A1.map (Hp.scanF (told M))=A2) :
    Calls Tryz.prog 54 #[.pointer (some ⟨d.hb,0,none⟩),.int .u8 kd,.slice p A.length k] w (FollowPost wb d0 d kd S1 S2 A1 A2 p k):=by
  obtain ⟨T,hT⟩:=Hp.live_total hw;obtain ⟨L1,ch1,hw1⟩:∃ L1 ch1,Hp.Wf S1 B L1 ch1:=by
   obtain ⟨S',L',e,_,hw'⟩:=Hp.collect_wf hw hT;rw [hco] at e;simp only [Option.some.injEq,Prod.mk.injEq] at e;obtain ⟨_,rfl⟩:=e;exact ⟨_,_,hw'⟩
  have HW1:=hZ hw1;have H:=hZ h;have CO:=hZ (Collect_any h.toHAt hco);have CP:=hZ (fun (hk7:kd=7)=>Hp.comp_after hw hco (hmv hk7));have H2:=hZ h2;have le:=h.row.at_.le;have cap:=h.row.at_.cap;have WFA:=hZ h.row.at_.wf;obtain ⟨f1,hf1⟩:∃ f1:Int->Int,f1=fun a=>if S1.has a then a else 0:=⟨_,rfl⟩
  rw [<- hf1] at h1;have HF:=hZ hf1;have H1:=hZ h1;obtain ⟨n,hn⟩:∃ n,A.length=n:=⟨_,rfl⟩
  have HN:=hZ hn;rw [hn] at hA le ⊢;clear h hw hco hmv h1 h2 hn hT hw1 hf1;go_enter Tryz.func54,Tryz.ntmps54;go_upto_region 4 with (go_at_call 47;refine CO.out.mono ?_;rintro e w2 ⟨rfl,hA2,hB2⟩;have N2:=hZ (H.out.turn (g:=d.gw) (cap:=d.cap) hB2 hA2 (.inl rfl));clear hA2 hB2)
  have N3:=hZ (N2.out.with_ (A':=mapTo f1 A 0) (mapTo_zero f1 A).symm);clear N2 CO H
  go_wp2_with fail
  go_loopg [9] n (fun g i wr=>∃ j:Nat,j<=n/\n-j<=g/\i = .int .i64 j/\Hid (DoAt wb wr d0 d S1 (mapTo f1 A j) p k))
  case atStart=>exact ⟨0,Nat.zero_le _,by omega,rfl,N3⟩
  case round=>
   obtain ⟨j,hj,hg,rfl,N⟩:=hrel;clear N3
   by_cases hlt:j < n
   . obtain ⟨x,hx⟩:=rd_get (l:=A) (j:=j) (by rw [HN.out];exact hlt);have hr:Hp.rd (mapTo f1 A j) j=some x:=(mapTo_rd (by rw [HN.out];exact hlt)).trans hx;obtain ⟨b,hp,hb⟩:=N.out.row.ptr (by rw [mapTo_len,HN.out];omega);have gx:=N.out.row.cell_ hp hr;have bx:=WFA.out x (List.mem_of_getElem? hx);have HX:=hZ hx;have tk:decide ((j:Int) < (n:Int))=true:=dT;obtain ⟨bh,hbh⟩:∃ bh,S1.has x=bh:=⟨_,rfl⟩
     have AT:=hZ (At_is hbh N.out.toHAt HW1.out bx.1 bx.2);have HB:=hZ hbh;clear hx hr hbh;subst hp;go_upto_region 8 with (go_at_call 22;refine AT.out.mono ?_;rintro e w4 ⟨x0,q4,m4,c4,f4,n4,rfl,hb4⟩)
     refine cut_world (F:=fun W=>Hid (Ext wr W)) (hZ exx) ?_;intro w5 E5;have N5:=hZ (N.out.ext E5.out);clear hb4 gx AT
     cases bh with
     | true=>
      simp only [if_true]
      go_wp2_with fail
      go_roundg (n-(j+1))
      case measure=>omega
      case rel=>exact ⟨j+1,by omega,Nat.le_refl _,by go_num,hZ (N5.out.with_ (mapTo_same HX.out (by rw [HF.out];simp [HB.out])).symm)⟩
     | false=>
      simp only [Bool.false_eq_true,if_false];have gx:=N5.out.row.cell_ rfl ((mapTo_rd (by rw [HN.out];exact hlt)).trans HX.out);have fb:=N5.out.row.froz (j:=j) rfl;have fx:f1 x=0:=by rw [HF.out];simp [HB.out]
      have hst:=mapTo_step (f:=f1) HX.out;rw [fx] at hst;have N6:=hZ (N5.out.setAt rfl hst (by decide) (by decide));clear hst fx
      go_wp2_with fail
      go_roundg (n-(j+1))
      case measure=>omega
      case rel=>exact ⟨j+1,by omega,Nat.le_refl _,by go_num,N6⟩
   have:j=n:=by omega
   subst this;have tk:decide ((j:Int) < (j:Int))=false:=dF;have N9:=hZ (N.out.with_ (A':=A1) (by rw [<- HN.out,mapTo_all];exact H1.out));clear N
   rcases hk with rfl | rfl
   . go_wp2_with fail
     go_returns;exact ⟨rfl,fun _=>N9.out.ext exx,fun h=>by omega⟩
   have LN1:=hZ (show A1.length=j by rw [<- H1.out,List.length_map,HN.out]);have CC:=hZ (fun W (hW:HAt W d S1)=>Compact_any hW (CP.out rfl));have ev:=Hp.told_even M;obtain ⟨V,hV⟩:∃ V,told M=V:=⟨_,rfl⟩
   have H3:=hZ (H2.out rfl);rw [hV] at CC ev H3;clear hV CP H2;obtain ⟨m,hm⟩:∃ m,V.length=m:=⟨_,rfl⟩
   have HM:=hZ hm;rw [hm] at ev;clear hm;have V0:=LN1;go_upto_region 13 with (go_at_call 51;refine (CC.out _ N9.out.toHAt).mono ?_;rintro e w6 ⟨g6,p6,c6,he,hA6,hB6,hg6,hs6,hf6⟩;rw [HM.out] at he;subst he;have N6:=hZ (N9.out.turn hB6 hA6 (.inr hg6));have V6:=hZ hs6;have F6:=hZ (show ∀ b o,p6=some ⟨b,o,none⟩ -> ∀ b' o',p=some ⟨b',o',none⟩->b ≠ b' from fun b o e b' o' e'=>by have h1:=hf6 b o e;have h2:=N9.out.row.lt e';omega);clear hA6 hB6 hg6 hs6 hf6)
   have N7:=hZ (N6.out.with_ (A':=mapTo (Hp.scanF V) A1 0) (mapTo_zero _ A1).symm);have mle:=V6.out.le;have mcap:=V6.out.cap;rw [HM.out] at mle;have tm:((m:Int).tmod 2 != 0)=false:=by
    have:(m:Int).tmod 2=0:=by rw [Int.tmod_eq_emod_of_nonneg (by omega)];omega
    rw [this];rfl
   have tm':((m:Int) % 2 != 0)=false:=by
    have:(m:Int) % 2=0:=by omega
    rw [this];rfl
   clear N9 N6 CC
   go_wp2_with fail
   go_loopg [15] j (fun g i wr=>∃ t:Nat,t<=j/\j-t<=g/\i = .int .i64 t/\Hid (DoAt wb wr d0 { d with gw:=g6,cap:=S2.words.length } S2 (mapTo (Hp.scanF V) A1 t) p k)/\Hid (SliceAt wr p6 c6 V))
   case atStart=>exact ⟨0,Nat.zero_le _,by omega,rfl,N7,V6⟩
   case round=>
    obtain ⟨t,ht,hg,rfl,N,V7⟩:=hrel;clear N7 V6
    by_cases hlt2:t < j
    . obtain ⟨x,hx⟩:=rd_get (l:=A1) (j:=t) (by rw [LN1.out];exact hlt2);have hr:Hp.rd (mapTo (Hp.scanF V) A1 t) t=some x:=(mapTo_rd (by rw [LN1.out];exact hlt2)).trans hx;obtain ⟨b,hp,hb⟩:=N.out.row.ptr (by rw [mapTo_len,LN1.out];omega);have HX:=hZ hx;have HR:=hZ hr;have tk2:decide ((t:Int) < (j:Int))=true:=dT;clear hx hr;subst hp
      go_wp2_with fail
      go_loopg [16] m (fun g i wr=>∃ kk:Nat,m-kk<=g/\(kk<=m/\kk % 2=0)/\i = .int .i64 kk/\Hid (Hp.scanF (V.drop kk) x=Hp.scanF V x)/\Hid (DoAt wb wr d0 { d with gw:=g6,cap:=S2.words.length } S2 (mapTo (Hp.scanF V) A1 t) (some ⟨b,0,none⟩) k)/\Hid (SliceAt wr p6 c6 V))
      case atStart=>exact ⟨0,by omega,⟨by omega,rfl⟩,rfl,hZ rfl,N,V7⟩
      case round=>
       obtain ⟨kk,hgk,hkm,rfl,SC,O,V8⟩:=hrel;clear N V7
       by_cases hk1:kk+1 < m
       . obtain ⟨a,ha⟩:=rd_get (l:=V) (j:=kk) (by rw [HM.out];omega);obtain ⟨bv,hbv⟩:=rd_get (l:=V) (j:=kk+1) (by rw [HM.out];omega);obtain ⟨b3,o3,hp3,hb3,hc3⟩:=V8.out.cells (by rw [HM.out];omega);have ga:=hc3 kk a ha;have gb:=hc3 (kk+1) bv hbv;have bb:=V8.out.wf bv (List.mem_of_getElem? hbv);have gx:=O.out.row.cell_ rfl HR.out;have zx:=cell_lt gx;have SC2:=hZ (SC.out.symm.trans (Hp.scanF_step ha hbv));have wk:IntKind.i64.wrap ((kk:Int)+1)=(kk:Int)+1:=IntWalk.i64_in _ (by omega);have tk3:decide ((kk:Int)+1 < (m:Int))=true:=dT;have km:kk < m:=by omega
         have kt:t < j:=hlt2;clear hc3 ha hbv;subst hp3
         by_cases hax:a=x
         . subst hax;have t0:(a == a)=true:=by simp
           have fx:Hp.scanF V a=bv:=by have:=SC2.out;rw [if_pos rfl] at this;exact this
           have hst:=mapTo_step (f:=Hp.scanF V) HX.out;rw [fx] at hst;have HST:=hZ hst;clear fx hst
           go_wp2_with fail
           have pr80a:=fun u_ (h_:Ext wr u_)=>(h_.cell zx t).trans gx
           have pr80b:=fun u_ (h_:Ext wr u_)=>(h_.cell hb3 (o3+kk)).trans ga
           refine wp_region_seq (S:=fun W=>Ext wr W) (R:=Ext) (by kernel_rfl) Ext.refl ?_ ?_
           . exact exx
           refine' tkL 0 ?_;refine' tkL 1 ?_;refine' tkL 2 ?_;refine' tkL 3 ?_;refine' tkL 4 ?_;refine' tkL 5 ?_;refine' tkL 6 ?_;refine' tkL 7 ?_;refine' tkL 8 ?_;refine wpAnyR_done (by kernel_rfl) ?_ _;intro y1 _ Ey1;clear pr80a pr80b;have O1:=hZ (O.out.ext Ey1);have V9:=hZ (V8.out.ext Ey1);have gb':=(Ey1.cell hb3 (o3+(kk+1))).trans gb;have gx':=O1.out.row.cell_ rfl HR.out;have fb:=O1.out.row.froz (j:=t) rfl;have O2:=hZ (O1.out.setAt rfl HST.out bb.1 bb.2);have V10:Hid (SliceAt (y1.setCell ⟨b,t,none⟩ (.int .i64 bv)) (some ⟨b3,o3,none⟩) c6 V):=hZ (V9.out.but ((But.refl [b] y1).setCell (.inl (by simp)) _) (fun b' o' e hm=>by
            have hb':b'=b:=by simpa using hm
            exact F6.out b' o' e b 0 rfl hb'))
           clear gx ga gb O V8 O1 V9
           go_wp2_with fail
           go_roundg (j-(t+1))
           case measure=>omega
           case rel=>exact ⟨t+1,by omega,Nat.le_refl _,by go_num,O2,V10⟩
         have t0:(a == x)=false:=by simpa using hax
         have SC3:=hZ (show Hp.scanF (V.drop (kk+2)) x=Hp.scanF V x by have:=SC2.out;rw [if_neg hax] at this;exact this.symm)
         go_wp2_with fail
         have pr81a:=fun u_ (h_:Ext wr u_)=>(h_.cell zx t).trans gx
         have pr81b:=fun u_ (h_:Ext wr u_)=>(h_.cell hb3 (o3+kk)).trans ga
         refine wp_region_seq (S:=fun W=>Ext wr W) (R:=Ext) (by kernel_rfl) Ext.refl ?_ ?_
         . exact exx
         refine' tkL 0 ?_;refine' tkL 1 ?_;refine' tkL 2 ?_;refine' tkL 3 ?_;refine' tkL 4 ?_;refine' tkL 5 ?_;refine' tkL 6 ?_;refine' tkL 7 ?_;refine' tkL 8 ?_;refine wpAnyR_done (by kernel_rfl) ?_ _;intro y1 _ Ey1;clear pr81a pr81b;have O1:=hZ (O.out.ext Ey1);have V9:=hZ (V8.out.ext Ey1);clear gx ga gb O V8
         go_wp2_with fail
         go_roundg (m-(kk+2))
         case measure=>omega
         case rel=>exact ⟨kk+2,Nat.le_refl _,by omega,by go_num,SC3,O1,V9⟩
       have tk3:decide ((kk:Int)+1 < (m:Int))=false:=dF;have wk:IntKind.i64.wrap ((kk:Int)+1)=(kk:Int)+1:=IntWalk.i64_in _ (by omega);have fx:Hp.scanF V x=x:=SC.out.symm.trans (Hp.scanF_end (by rw [HM.out];omega));have O1:=hZ (O.out.with_ (mapTo_same HX.out fx).symm);clear fx
       go_wp2_with fail
       go_roundg (j-(t+1))
       case measure=>omega
       case rel=>exact ⟨t+1,by omega,Nat.le_refl _,by go_num,O1,V8⟩
    have:t=j:=by omega
    subst this;have tk2:decide ((t:Int) < (t:Int))=false:=dF;have O1:=hZ (N.out.with_ (A':=A2) (by rw [<- LN1.out,mapTo_all];exact H3.out));clear N
    go_wp2_with fail
    go_returns;exact ⟨rfl,fun h=>by omega,fun _=>⟨g6,S2.words.length,O1.out.ext exx⟩⟩
open Go.RowKit Go.Maps
def DoingPost (wb:World) (d0:Hd) (s':Hp.Sc) (e:Ending) (w':World):Prop:=
 e = .returned (.bool true) /\ ∃ gw cap,HAt w' { d0 with gw:=gw,cap:=cap } s'.S/\But d0.own wb w'
theorem Now.mk' {a b:World} (h:HAt b d S) (k:But d.own a b):Now a b d S:=⟨h,k⟩
set_option maxRecDepth 100000 in
set_option maxHeartbeats 16000000 in
theorem lDoing {wa wb:World} {d0:Hd} {B0:Nat} (h:HAt wb d0 S) (hg:Hp.Good S B0) (hB:B0<=90000) (own:∀ b ∈ d0.own,wa.heap.size<=b) (ext:Ext wa wb)
    {pa:Option Addr} {ca:Nat} {acts:List Hp.Act'} (ha:ActsAt wa pa ca acts) (hal:acts.length<=300) {s':Hp.Sc} (hr:Hp.Sc.play ⟨S,[],[]⟩ acts=some s') :
    Calls Tryz.prog 49 #[.pointer (some ⟨d0.hb,0,none⟩),.slice pa acts.length ca] wb (DoingPost wb d0 s'):=by
  have N0:Hid (DoAt wb wb d0 { d0 with gw:=d0.gw,cap:=d0.cap } S [] none 0):=hZ
   { toHAt:=h,but0:=But.refl _ _,own0:=fun b hb=>.inl hb,row:=(Row.nil wb 0).base0
     n:=fun b o e=>by cases e
     spn:=h.old1,opn:=h.old2 }
  have HA:=hZ ha;have le:=ha.le;have cap:=ha.cap;have OWN:=hZ own;have EXT:=hZ ext;have OK0:=hZ (show ScOk ⟨S,[],[]⟩ 0 from ⟨rfl,rfl,by simp⟩);have HR0:=hZ (show Hp.Sc.play ⟨S,[],[]⟩ (acts.drop 0)=some s' from hr);have GD0:=hZ (show Hp.Good S (B0+0) from hg);obtain ⟨m,hm⟩:∃ m,acts.length=m:=⟨_,rfl⟩
  have HM:=hZ hm;rw [hm] at le hal ⊢;clear h hg own ext ha hr hm;go_enter Tryz.func49,Tryz.ntmps49
  go_wp2_with fail
  go_loopg [5,6] m (fun g' v5 v6 wr=>∃ (j:Nat) (s:Hp.Sc) (gw cp:Nat) (p:Option Addr) (k:Nat),j<=m/\m-j<=g'/\v5 = .slice p j k/\v6 = .int .i64 j/\Hid (DoAt wb wr d0 { d0 with gw:=gw,cap:=cp } s.S s.ats p k)/\Hid (Hp.Sc.play s (acts.drop j)=some s')/\Hid (ScOk s j)/\Hid (Hp.Good s.S (B0+j)))
  case atStart=>exact ⟨0,_,d0.gw,d0.cap,none,0,Nat.zero_le _,by omega,rfl,rfl,N0,HR0,OK0,GD0⟩
  case round=>
   obtain ⟨j,s,gw,cp,p,k,hj,hg,rfl,rfl,N,HP,OK,GD⟩:=hrel;clear N0 HR0 OK0 GD0
   by_cases hlt:j < m
   . obtain ⟨x,hx⟩:∃ x,acts[j]? = some x:=⟨acts[j]'(by rw [HM.out];exact hlt),List.getElem?_eq_getElem _⟩
     obtain ⟨b,o,rfl,hb,hc⟩:=(HA.out.ext (But.toExt EXT.out N.out.but0 OWN.out)).cells (by rw [HM.out];omega);obtain ⟨q',c',f,ok,a0,a1,a2,a3,a4,hs⟩:=hc j x hx;have tk:decide ((j:Int) < (m:Int))=true:=dT;have HOK:=hZ ok;have HS:=hZ hs;have hp2:=HP.out;rw [List.drop_eq_getElem_cons (by rw [HM.out];exact hlt)] at hp2;have hxe:acts[j]'(by rw [HM.out];exact hlt)=x:=by
      have:=hx;rw [List.getElem?_eq_getElem (by rw [HM.out];exact hlt)] at this;exact Option.some.inj this
     rw [hxe] at hp2;simp only [Hp.Sc.play,Option.bind_eq_bind,Option.bind_eq_some_iff] at hp2;obtain ⟨s1,hdo,hrest⟩:=hp2;have HREST:=hZ hrest;have OK1:=hZ (OK.out.do' hdo);obtain ⟨gd1,gr1⟩:=good_of GD.out (by omega) (show 0<=x.fault by have:=ok.fault;omega) hdo;have GD1:=hZ (show Hp.Good s1.S (B0+(j+1)) from gd1);have HD:=hZ hdo;have sml:s.S.words.length<=1000000:=N.out.small;have OWL:=hZ N.out.toHAt.own_lt;have WFN:=hZ (fun v=>nameOf_wf N.out.row.2 v);have lj:s.ats.length<=1000:=by rw [OK.out.ats];omega
     clear hc hx ok hs hrest hxe HP gd1 gr1 hdo;go_upto_region 7 with fail
     refine cut_world (F:=fun W=>Hid (Ext wr W)/\Hid (W.cell? ⟨wr.heap.size,0,none⟩=some (.int .u8 x.kind)/\W.cell? ⟨wr.heap.size,1,none⟩=some (.int .i64 x.a)/\W.cell? ⟨wr.heap.size,2,none⟩=some (.slice q' x.list.length c')/\W.cell? ⟨wr.heap.size,3,none⟩=some (.int .u8 f)/\W.cell? ⟨wr.heap.size,4,none⟩=some (.int .i64 x.n))) ⟨hZ exx,hZ ⟨by go_simp,by go_simp,by go_simp,by go_simp,by go_simp⟩⟩ ?_;rintro w2 ⟨E2,HC⟩;obtain ⟨tb,htb⟩:∃ tb,wr.heap.size=tb:=⟨_,rfl⟩
     have TBO:=hZ (show tb ∉ ({ d0 with gw:=gw,cap:=cp }:Hd).own from fun hm=>by have:=OWL.out tb hm;omega);rw [htb] at HC ⊢;obtain ⟨k0,k1,k2,k3,k4⟩:=HC.out;have zt:=cell_lt k0;have N2:=hZ (N.out.ext E2.out);have S2:=hZ (HS.out.ext E2.out);have bz1:(-9223372036854775808:Int)<=0:=by decide
     have bz2:(0:Int)<=9223372036854775807:=by decide
     have tf:(false == true)=false:=rfl;clear HC htb a0 a1 a2 a3 a4 N HS hb
     by_cases h1:x.kind=1
     . obtain ⟨r,e,hen,hats⟩:=Hp.dd_end HD.out h1;have bd:=end_small sml hen;have bn1:(-9223372036854775808:Int)<=r:=by omega
       have bn2:r<=9223372036854775807:=by omega
       rw [HOK.out.fault] at hen;have HEN:=hZ hen;have HATS:=hZ hats;rw [h1] at k0;clear hen hats HD bd
       go_wp2_with (first
        | (go_at_call 43;refine (End_any N2.out.toHAt HOK.out.f2 HOK.out.n1 HOK.out.n2 HEN.out).mono ?_;rintro e3 w3 ⟨rfl,hN3⟩;have N3:=hZ (N2.out.now hN3);clear hN3)
        | (at_builtin;refine wpList_append_rowN rfl _ _ rfl (n:=j) OK.out.ats rfl rfl (N3.out.ext (Ext.alloc (Ext.refl _) _)).row (by go_simp) bn1 bn2 (by omega) ?_;intro g7 c7 w7 row7 hR7 hG7 hr7 hg7;have N7:=hZ ((N3.out.ext (Ext.alloc (Ext.refl _) _)).grow hR7 hG7 hr7 hg7);clear hR7 hG7 hr7 hg7))
       go_roundg (m-(j+1))
       case measure=>omega
       case rel=>exact ⟨j+1,s1,gw,cp,_,_,by omega,Nat.le_refl _,rfl,by go_num,hZ (by have h:=N7.out;rw [<- HATS.out] at h;exact h),HREST,OK1,GD1⟩
     by_cases h2:x.kind=2
     . have NM:=lNamed N2.out.row.at_ S2.out OK.out.pos HOK.out.len;have DD:=Hp.dd_make HD.out h2;obtain ⟨ks,hks⟩:∃ ks,x.list.map (Hp.nameOf s.ats)=ks:=⟨_,rfl⟩
       have KB:=hZ (show ∀ y ∈ ks,-9223372036854775808<=y/\y<=9223372036854775807 from fun y hy=>by rw [<- hks] at hy;obtain ⟨v,_,rfl⟩:=List.mem_map.1 hy;exact WFN.out v);rw [OK.out.ats,hks] at NM;rw [hks] at DD;have NM:=hZ NM;rw [h2] at k0;clear hks
       rcases DD with ⟨ct,hS,hats⟩ | ⟨ct,r,e,hmk,hats⟩
       . have CT:=hZ ct;have HATS:=hZ hats;have HSS:=hZ hS;clear ct hats hS HD
         go_wp2_with (first
          | (go_at_call 115;refine NM.out.mono ?_;rintro e3 w3 ⟨q3,c3,m3,he,-,hE3⟩;rw [CT.out,Bool.not_true] at he;subst he;have N3:=hZ ((N2.out).ext hE3);have k0':=(hE3.cell (zt) 0).trans (k0);clear hE3)
          | (at_builtin;refine wpList_append_rowN rfl _ _ rfl (n:=j) OK.out.ats rfl rfl (N3.out.ext (Ext.alloc (Ext.refl _) _)).row (by go_simp) bz1 bz2 (by omega) ?_;intro g7 c7 w7 row7 hR7 hG7 hr7 hg7;have N7:=hZ ((N3.out.ext (Ext.alloc (Ext.refl _) _)).grow hR7 hG7 hr7 hg7);clear hR7 hG7 hr7 hg7))
         go_roundg (m-(j+1))
         case measure=>omega
         case rel=>exact ⟨j+1,s1,gw,cp,_,_,by omega,Nat.le_refl _,rfl,by go_num,hZ (by have h:=N7.out;rw [<- HATS.out,<- HSS.out] at h;exact h),HREST,OK1,GD1⟩
       have bd:=make_wf sml KB.out hmk;have bn1:(-9223372036854775808:Int)<=r:=by omega
       have bn2:r<=9223372036854775807:=by omega
       have CT:=hZ ct;have HATS:=hZ hats;have HMK:=hZ hmk;clear ct hats hmk HD bd
       go_wp2_with (first
        | (go_at_call 115;refine NM.out.mono ?_;rintro e3 w3 ⟨q3,c3,m3,he,hR,hE3⟩;rw [CT.out,Bool.not_false] at he;subst he;obtain ⟨rfl,hR3⟩:=hR CT.out;have R3:=hZ hR3;have N3:=hZ ((N2.out).ext hE3);have z3:tb < w3.heap.size:=Nat.lt_of_lt_of_le (zt) hE3.le;have le3:=hE3.le;have k0':=(hE3.cell (zt) 0).trans (k0);have k1':=(hE3.cell (zt) 1).trans (k1);clear hE3 hR hR3)
        | (go_at_call 44;refine (Make_any N3.out.toHAt R3.out.at_ (fun b' o' e' hm=>by have h1:=R3.out.far e';have h2:=OWL.out b' hm;have h3:=E2.out.le;omega) HOK.out.a1 HOK.out.a2 HMK.out).mono ?_;rintro e4 w4 ⟨rfl,hN4⟩;have N4:=hZ (N3.out.now hN4);have k0'':=(hN4.but.cell z3 TBO.out 0).trans k0';clear hN4)
        | (at_builtin;refine wpList_append_rowN rfl _ _ rfl (n:=j) OK.out.ats rfl rfl (N4.out.ext (Ext.alloc (Ext.refl _) _)).row (by go_simp) bn1 bn2 (by omega) ?_;intro g7 c7 w7 row7 hR7 hG7 hr7 hg7;have N7:=hZ ((N4.out.ext (Ext.alloc (Ext.refl _) _)).grow hR7 hG7 hr7 hg7);clear hR7 hG7 hr7 hg7))
       go_roundg (m-(j+1))
       case measure=>omega
       case rel=>exact ⟨j+1,s1,gw,cp,_,_,by omega,Nat.le_refl _,rfl,by go_num,hZ (by have h:=N7.out;rw [<- HATS.out] at h;exact h),HREST,OK1,GD1⟩
     by_cases h3:x.kind=3
     . have NM:=lNamed N2.out.row.at_ S2.out OK.out.pos HOK.out.len;have DD:=Hp.dd_find HD.out h3;obtain ⟨ks,hks⟩:∃ ks,x.list.map (Hp.nameOf s.ats)=ks:=⟨_,rfl⟩
       have KB:=hZ (show ∀ y ∈ ks,-9223372036854775808<=y/\y<=9223372036854775807 from fun y hy=>by rw [<- hks] at hy;obtain ⟨v,_,rfl⟩:=List.mem_map.1 hy;exact WFN.out v);rw [OK.out.ats,hks] at NM;rw [hks] at DD;have NM:=hZ NM;rw [h3] at k0;clear hks
       rcases DD with ⟨ct,hS,hats⟩ | ⟨ct,hS,r,e,hmk,hats⟩
       . have CT:=hZ ct;have HATS:=hZ hats;have HSS:=hZ hS;clear ct hats hS HD
         go_wp2_with (first
          | (go_at_call 115;refine NM.out.mono ?_;rintro e3 w3 ⟨q3,c3,m3,he,-,hE3⟩;rw [CT.out,Bool.not_true] at he;subst he;have N3:=hZ ((N2.out).ext hE3);have k0':=(hE3.cell (zt) 0).trans (k0);clear hE3)
          | (at_builtin;refine wpList_append_rowN rfl _ _ rfl (n:=j) OK.out.ats rfl rfl (N3.out.ext (Ext.alloc (Ext.refl _) _)).row (by go_simp) bz1 bz2 (by omega) ?_;intro g7 c7 w7 row7 hR7 hG7 hr7 hg7;have N7:=hZ ((N3.out.ext (Ext.alloc (Ext.refl _) _)).grow hR7 hG7 hr7 hg7);clear hR7 hG7 hr7 hg7))
         go_roundg (m-(j+1))
         case measure=>omega
         case rel=>exact ⟨j+1,s1,gw,cp,_,_,by omega,Nat.le_refl _,rfl,by go_num,hZ (by have h:=N7.out;rw [<- HATS.out,<- HSS.out] at h;exact h),HREST,OK1,GD1⟩
       have bd:=find_wf sml KB.out hmk;have bn1:(-9223372036854775808:Int)<=r:=by omega
       have bn2:r<=9223372036854775807:=by omega
       have CT:=hZ ct;have HATS:=hZ hats;have HMK:=hZ hmk;have HSS:=hZ hS;clear ct hats hmk HD bd hS
       go_wp2_with (first
        | (go_at_call 115;refine NM.out.mono ?_;rintro e3 w3 ⟨q3,c3,m3,he,hR,hE3⟩;rw [CT.out,Bool.not_false] at he;subst he;obtain ⟨rfl,hR3⟩:=hR CT.out;have R3:=hZ hR3;have N3:=hZ ((N2.out).ext hE3);have z3:tb < w3.heap.size:=Nat.lt_of_lt_of_le (zt) hE3.le;have le3:=hE3.le;have k0':=(hE3.cell (zt) 0).trans (k0);have k1':=(hE3.cell (zt) 1).trans (k1);clear hE3 hR hR3)
        | (go_at_call 45;refine (Find_any N3.out.toHAt R3.out.at_ (fun b' o' e' hm=>by have h1:=R3.out.far e';have h2:=OWL.out b' hm;have h3:=E2.out.le;omega) HOK.out.a1 HOK.out.a2 HMK.out).mono ?_;rintro e4 w4 ⟨rfl,hE4⟩;have N4:=hZ (N3.out.ext hE4);have k0'':=(hE4.cell z3 0).trans k0';clear hE4)
        | (at_builtin;refine wpList_append_rowN rfl _ _ rfl (n:=j) OK.out.ats rfl rfl (N4.out.ext (Ext.alloc (Ext.refl _) _)).row (by go_simp) bn1 bn2 (by omega) ?_;intro g7 c7 w7 row7 hR7 hG7 hr7 hg7;have N7:=hZ ((N4.out.ext (Ext.alloc (Ext.refl _) _)).grow hR7 hG7 hr7 hg7);clear hR7 hG7 hr7 hg7))
       go_roundg (m-(j+1))
       case measure=>omega
       case rel=>exact ⟨j+1,s1,gw,cp,_,_,by omega,Nat.le_refl _,rfl,by go_num,hZ (by have h:=N7.out;rw [<- HATS.out,<- HSS.out] at h;exact h),HREST,OK1,GD1⟩
     by_cases h4:x.kind=4
     . obtain ⟨hats,hx⟩:=Hp.dd_hold HD.out h4;have NM:=lNamed (N2.out.ext (Ext.alloc (Ext.refl w2) (.cells #[.int .i64 x.a] 3))).row.at_ (SliceAt.one w2 x.a HOK.out.a1 HOK.out.a2 3) OK.out.pos (by simp);rw [OK.out.ats] at NM;have HATS:=hZ hats;rw [h4] at k0;obtain ⟨y,hy⟩:∃ y,Hp.nameOf s.ats x.a=y:=⟨_,rfl⟩
       have by_:=WFN.out x.a;rw [List.map_cons,List.map_nil,hy] at NM;rw [hy] at hx by_;have NM:=hZ NM;clear hats hy HD
       rcases hx with ⟨h0,hS⟩ | ⟨h0,e,hmk⟩
       . have CT:=hZ (show [y].contains 0=true by rw [h0];rfl);have HSS:=hZ hS;clear hS h0
         go_wp2_with (first
          | (go_at_call 115;refine NM.out.mono ?_;rintro e3 w3 ⟨q3,c3,m3,he,-,hE3⟩;rw [CT.out,Bool.not_true] at he;subst he;have N3:=hZ (((N2.out.ext (Ext.alloc (Ext.refl _) _))).ext hE3);have k0':=(hE3.cell (Nat.lt_of_lt_of_le zt (Ext.alloc (Ext.refl _) _).le) 0).trans (((Ext.alloc (Ext.refl _) _).cell zt 0).trans k0);clear hE3)
          | (at_builtin;refine wpList_append_rowN rfl _ _ rfl (n:=j) OK.out.ats rfl rfl (N3.out.ext (Ext.alloc (Ext.refl _) _)).row (by go_simp) bz1 bz2 (by omega) ?_;intro g7 c7 w7 row7 hR7 hG7 hr7 hg7;have N7:=hZ ((N3.out.ext (Ext.alloc (Ext.refl _) _)).grow hR7 hG7 hr7 hg7);clear hR7 hG7 hr7 hg7))
         go_roundg (m-(j+1))
         case measure=>omega
         case rel=>exact ⟨j+1,s1,gw,cp,_,_,by omega,Nat.le_refl _,rfl,by go_num,hZ (by have h:=N7.out;rw [<- HATS.out,<- HSS.out] at h;exact h),HREST,OK1,GD1⟩
       have CT:=hZ (show [y].contains 0=false by simpa using fun e=>h0 e.symm);have HMK:=hZ hmk;clear hmk h0
       go_wp2_with (first
        | (go_at_call 115;refine NM.out.mono ?_;rintro e3 w3 ⟨q3,c3,m3,he,hR,hE3⟩;rw [CT.out,Bool.not_false] at he;subst he;obtain ⟨rfl,hR3⟩:=hR CT.out;have R3:=hZ hR3;obtain ⟨gq,hgq,hgl⟩:=hR3.ptr (by simp);subst hgq;have cq:=hR3.cell_ (j:=0) (x:=y) rfl rfl;have N3:=hZ (((N2.out.ext (Ext.alloc (Ext.refl _) _))).ext hE3);have z3:tb < w3.heap.size:=Nat.lt_of_lt_of_le (Nat.lt_of_lt_of_le zt (Ext.alloc (Ext.refl _) _).le) hE3.le;have le3:=hE3.le;have k0':=(hE3.cell (Nat.lt_of_lt_of_le zt (Ext.alloc (Ext.refl _) _).le) 0).trans (((Ext.alloc (Ext.refl _) _).cell zt 0).trans k0);have k1':=(hE3.cell (Nat.lt_of_lt_of_le zt (Ext.alloc (Ext.refl _) _).le) 1).trans (((Ext.alloc (Ext.refl _) _).cell zt 1).trans k1);clear hE3 hR hR3)
        | (go_at_call 53;refine (Hold_any N3.out.toHAt HMK.out by_.1 by_.2).mono ?_;rintro e4 w4 ⟨rfl,hA4,hB4⟩;have N4:=hZ (N3.out.now (Now.mk' hA4 hB4));have k0'':=(hB4.cell z3 TBO.out 0).trans k0';clear hA4 hB4)
        | (at_builtin;refine wpList_append_rowN rfl _ _ rfl (n:=j) OK.out.ats rfl rfl (N4.out.ext (Ext.alloc (Ext.refl _) _)).row (by go_simp) bz1 bz2 (by omega) ?_;intro g7 c7 w7 row7 hR7 hG7 hr7 hg7;have N7:=hZ ((N4.out.ext (Ext.alloc (Ext.refl _) _)).grow hR7 hG7 hr7 hg7);clear hR7 hG7 hr7 hg7))
       go_roundg (m-(j+1))
       case measure=>omega
       case rel=>exact ⟨j+1,s1,gw,cp,_,_,by omega,Nat.le_refl _,rfl,by go_num,hZ (by have h:=N7.out;rw [<- HATS.out] at h;exact h),HREST,OK1,GD1⟩
     by_cases h5:x.kind=5
     . obtain ⟨hats,hx⟩:=Hp.dd_drop HD.out h5;have NM:=lNamed (N2.out.ext (Ext.alloc (Ext.refl w2) (.cells #[.int .i64 x.a] 3))).row.at_ (SliceAt.one w2 x.a HOK.out.a1 HOK.out.a2 3) OK.out.pos (by simp);rw [OK.out.ats] at NM;have HATS:=hZ hats;rw [h5] at k0;obtain ⟨y,hy⟩:∃ y,Hp.nameOf s.ats x.a=y:=⟨_,rfl⟩
       have by_:=WFN.out x.a;rw [List.map_cons,List.map_nil,hy] at NM;rw [hy] at hx by_;have NM:=hZ NM;clear hats hy HD
       rcases hx with ⟨h0,hS⟩ | ⟨h0,e,hmk⟩
       . have CT:=hZ (show [y].contains 0=true by rw [h0];rfl);have HSS:=hZ hS;clear hS h0
         go_wp2_with (first
          | (go_at_call 115;refine NM.out.mono ?_;rintro e3 w3 ⟨q3,c3,m3,he,-,hE3⟩;rw [CT.out,Bool.not_true] at he;subst he;have N3:=hZ (((N2.out.ext (Ext.alloc (Ext.refl _) _))).ext hE3);have k0':=(hE3.cell (Nat.lt_of_lt_of_le zt (Ext.alloc (Ext.refl _) _).le) 0).trans (((Ext.alloc (Ext.refl _) _).cell zt 0).trans k0);clear hE3)
          | (at_builtin;refine wpList_append_rowN rfl _ _ rfl (n:=j) OK.out.ats rfl rfl (N3.out.ext (Ext.alloc (Ext.refl _) _)).row (by go_simp) bz1 bz2 (by omega) ?_;intro g7 c7 w7 row7 hR7 hG7 hr7 hg7;have N7:=hZ ((N3.out.ext (Ext.alloc (Ext.refl _) _)).grow hR7 hG7 hr7 hg7);clear hR7 hG7 hr7 hg7))
         go_roundg (m-(j+1))
         case measure=>omega
         case rel=>exact ⟨j+1,s1,gw,cp,_,_,by omega,Nat.le_refl _,rfl,by go_num,hZ (by have h:=N7.out;rw [<- HATS.out,<- HSS.out] at h;exact h),HREST,OK1,GD1⟩
       have CT:=hZ (show [y].contains 0=false by simpa using fun e=>h0 e.symm);have HMK:=hZ hmk;clear hmk h0
       go_wp2_with (first
        | (go_at_call 115;refine NM.out.mono ?_;rintro e3 w3 ⟨q3,c3,m3,he,hR,hE3⟩;rw [CT.out,Bool.not_false] at he;subst he;obtain ⟨rfl,hR3⟩:=hR CT.out;have R3:=hZ hR3;obtain ⟨gq,hgq,hgl⟩:=hR3.ptr (by simp);subst hgq;have cq:=hR3.cell_ (j:=0) (x:=y) rfl rfl;have N3:=hZ (((N2.out.ext (Ext.alloc (Ext.refl _) _))).ext hE3);have z3:tb < w3.heap.size:=Nat.lt_of_lt_of_le (Nat.lt_of_lt_of_le zt (Ext.alloc (Ext.refl _) _).le) hE3.le;have le3:=hE3.le;have k0':=(hE3.cell (Nat.lt_of_lt_of_le zt (Ext.alloc (Ext.refl _) _).le) 0).trans (((Ext.alloc (Ext.refl _) _).cell zt 0).trans k0);have k1':=(hE3.cell (Nat.lt_of_lt_of_le zt (Ext.alloc (Ext.refl _) _).le) 1).trans (((Ext.alloc (Ext.refl _) _).cell zt 1).trans k1);clear hE3 hR hR3)
        | (go_at_call 46;refine (Drop_any N3.out.toHAt HMK.out by_.1 by_.2).mono ?_;rintro e4 w4 ⟨rfl,hA4,hB4⟩;have N4:=hZ (N3.out.now (Now.mk' hA4 hB4));have k0'':=(hB4.cell z3 TBO.out 0).trans k0';clear hA4 hB4)
        | (at_builtin;refine wpList_append_rowN rfl _ _ rfl (n:=j) OK.out.ats rfl rfl (N4.out.ext (Ext.alloc (Ext.refl _) _)).row (by go_simp) bz1 bz2 (by omega) ?_;intro g7 c7 w7 row7 hR7 hG7 hr7 hg7;have N7:=hZ ((N4.out.ext (Ext.alloc (Ext.refl _) _)).grow hR7 hG7 hr7 hg7);clear hR7 hG7 hr7 hg7))
       go_roundg (m-(j+1))
       case measure=>omega
       case rel=>exact ⟨j+1,s1,gw,cp,_,_,by omega,Nat.le_refl _,rfl,by go_num,hZ (by have h:=N7.out;rw [<- HATS.out] at h;exact h),HREST,OK1,GD1⟩
     by_cases h6:x.kind=6
     . obtain ⟨cm,S1,hco,rfl⟩:=Hp.do_six HD.out h6;obtain ⟨L,ch,hw⟩:=GD.out;have FO:=lFollow (S2:=S1) (M:=[]) (A2:=[]) N2.out lj hw hco (kd:=6) (.inl rfl) (fun h=>by omega) rfl (fun h=>by omega);rw [OK.out.ats] at FO;have FO:=hZ FO;have LA:(s.ats.map fun a=>if S1.has a then a else 0).length=j:=by rw [List.length_map,OK.out.ats]
       have HLA:=hZ LA;rw [h6] at k0;clear hw hco HD LA
       go_wp2_with (first
        | (go_at_call 54;refine FO.out.mono ?_;rintro e3 w3 ⟨rfl,hN3,-⟩;have N3:=hZ (hN3 rfl);clear hN3)
        | (at_builtin;refine wpList_append_rowN rfl _ _ rfl (n:=j) HLA.out rfl rfl (N3.out.ext (Ext.alloc (Ext.refl _) _)).row (by go_simp) bz1 bz2 (by omega) ?_;intro g7 c7 w7 row7 hR7 hG7 hr7 hg7;have N7:=hZ ((N3.out.ext (Ext.alloc (Ext.refl _) _)).grow hR7 hG7 hr7 hg7);clear hR7 hG7 hr7 hg7))
       go_roundg (m-(j+1))
       case measure=>omega
       case rel=>exact ⟨j+1,_,gw,cp,_,_,by omega,Nat.le_refl _,rfl,by go_num,hZ (by have h:=N7.out;  exact h),HREST,OK1,GD1⟩
     by_cases h7:x.kind=7
     . obtain ⟨cm,S1,M,S2',hco,hmv,rfl⟩:=Hp.do_seven HD.out h7;obtain ⟨L,ch,hw⟩:=GD.out;obtain ⟨TL,hT⟩:=Hp.live_total hw;obtain ⟨L1,ch1,hw1⟩:=collected_wf hw hT hco;have FO:=lFollow (S2:=S2') (M:=M) N2.out lj hw hco (kd:=7) (.inr rfl) (fun _=>hmv) rfl (fun _=>(Hp.follow_told hw1 hmv s.ats).symm);rw [OK.out.ats] at FO;have FO:=hZ FO;have LA:((s.ats.map fun a=>if S1.has a then a else 0).map fun a=>if a < 0 then 0 else (getI a.toNat M).getD 0).length=j:=by rw [List.length_map,List.length_map,OK.out.ats]
       have HLA:=hZ LA;rw [h7] at k0;clear hw hco hmv hw1 hT HD LA
       go_wp2_with (first
        | (go_at_call 54;refine FO.out.mono ?_;rintro e3 w3 ⟨rfl,-,hN3⟩;obtain ⟨g3,cp3,hN3'⟩:=hN3 rfl;have N3:=hZ hN3';clear hN3 hN3')
        | (at_builtin;refine wpList_append_rowN rfl _ _ rfl (n:=j) HLA.out rfl rfl (N3.out.ext (Ext.alloc (Ext.refl _) _)).row (by go_simp) bz1 bz2 (by omega) ?_;intro g7 c7 w7 row7 hR7 hG7 hr7 hg7;have N7:=hZ ((N3.out.ext (Ext.alloc (Ext.refl _) _)).grow hR7 hG7 hr7 hg7);clear hR7 hG7 hr7 hg7))
       go_roundg (m-(j+1))
       case measure=>omega
       case rel=>exact ⟨j+1,_,g3,cp3,_,_,by omega,Nat.le_refl _,rfl,by go_num,hZ (by have h:=N7.out;  exact h),HREST,OK1,GD1⟩
     obtain ⟨hS,hats⟩:=Hp.dd_rest HD.out h1 h2 h3 h4 h5 h6 h7;have t1:(x.kind == 1)=false:=by simpa using h1
     have t2:(x.kind == 2)=false:=by simpa using h2
     have t3:(x.kind == 3)=false:=by simpa using h3
     have t4:(x.kind == 4)=false:=by simpa using h4
     have t5:(x.kind == 5)=false:=by simpa using h5
     have t6:(x.kind == 6)=false:=by simpa using h6
     have t7:(x.kind == 7)=false:=by simpa using h7
     have HATS:=hZ hats;have HSS:=hZ hS;clear hats hS HD
     go_wp2_with (at_builtin;refine wpList_append_rowN rfl _ _ rfl (n:=j) OK.out.ats rfl rfl (N2.out.ext (Ext.alloc (Ext.refl _) _)).row (by go_simp) bz1 bz2 (by omega) ?_;intro g7 c7 w7 row7 hR7 hG7 hr7 hg7;have N7:=hZ ((N2.out.ext (Ext.alloc (Ext.refl _) _)).grow hR7 hG7 hr7 hg7);clear hR7 hG7 hr7 hg7)
     go_roundg (m-(j+1))
     case measure=>omega
     case rel=>exact ⟨j+1,s1,gw,cp,_,_,by omega,Nat.le_refl _,rfl,by go_num,hZ (by have h:=N7.out;rw [<- HATS.out,<- HSS.out] at h;exact h),HREST,OK1,GD1⟩
   have:j=m:=by omega
   subst this;have tk:decide ((j:Int) < (j:Int))=false:=dF;have hp2:=HP.out;rw [List.drop_of_length_le (by rw [HM.out];exact Nat.le_refl _)] at hp2;obtain rfl:s=s':=by simpa [Hp.Sc.play] using hp2
   go_wp2_with fail
   go_returns;exact ⟨rfl,gw,cp,N.out.toHAt.ext exx,N.out.but0.ext exx⟩
def Own4 (W:World) (g:Nat) (c0 c1 c2 c3:Value):Prop:=W.cell? ⟨g,0,none⟩=some c0/\W.cell? ⟨g,1,none⟩=some c1/\W.cell? ⟨g,2,none⟩=some c2/\W.cell? ⟨g,3,none⟩=some c3/\W.frozen? ⟨g,0,none⟩=false/\W.frozen? ⟨g,1,none⟩=false/\W.frozen? ⟨g,2,none⟩=false/\W.frozen? ⟨g,3,none⟩=false
theorem Own4.lt {W:World} {c2 c3:Value} (h:Own4 W g c0 c1 c2 c3):g < W.heap.size:=cell_lt h.1
theorem Own4.but {W:World} {l:List Nat} {c2 c3:Value} (h:Own4 W g c0 c1 c2 c3) (k:But l W W') (hg:g ∉ l):Own4 W' g c0 c1 c2 c3:=by
 have z:=h.lt
 obtain ⟨a0,a1,a2,a3,f0,f1,f2,f3⟩:=h
 exact ⟨(k.cell z hg 0).trans a0,(k.cell z hg 1).trans a1,(k.cell z hg 2).trans a2,(k.cell z hg 3).trans a3,(k.frozen z hg 0).trans f0,(k.frozen z hg 1).trans f1,(k.frozen z hg 2).trans f2,(k.frozen z hg 3).trans f3⟩
theorem Own4.ext {W:World} {c2 c3:Value} (h:Own4 W g c0 c1 c2 c3) (he:Ext W W'):Own4 W' g c0 c1 c2 c3:=h.but (l:=[]) (But.ofExt he) (by simp)
theorem Own4.set {x0 x1 x2 x3 c2 c3:Value} (h:Own4 w g x0 x1 x2 x3):Own4 ((((w.setCell ⟨g,0,none⟩ c0).setCell ⟨g,1,none⟩ c1).setCell ⟨g,2,none⟩ c2).setCell ⟨g,3,none⟩ c3) g c0 c1 c2 c3:=by
 obtain ⟨d0,d1,d2,d3,f0,f1,f2,f3⟩:=h
 have z:=cell_lt d0
 exact ⟨by simp [go_sem,d0],by simp [go_sem,d1],by simp [go_sem,d2],by simp [go_sem,d3],by simp [go_sem,f0],by simp [go_sem,f1],by simp [go_sem,f2],by simp [go_sem,f3]⟩
theorem Own4.far {h:Nat} {x0 x1 x2 x3 c2 c3:Value} (H:Own4 w h x0 x1 x2 x3) (hne:¬ h=g):Own4 ((((w.setCell ⟨g,0,none⟩ c0).setCell ⟨g,1,none⟩ c1).setCell ⟨g,2,none⟩ c2).setCell ⟨g,3,none⟩ c3) h x0 x1 x2 x3:=by
 have k:But [g] w ((((w.setCell ⟨g,0,none⟩ c0).setCell ⟨g,1,none⟩ c1).setCell ⟨g,2,none⟩ c2).setCell ⟨g,3,none⟩ c3):=((((But.refl _ _).setCell (.inl (by simp)) _).setCell (.inl (by simp)) _).setCell (.inl (by simp)) _).setCell (.inl (by simp)) _
 exact H.but k (by simpa using hne)
theorem Own4.set3 {c2 c3 v:Value} (h:Own4 w g c0 c1 c2 c3):Own4 (w.setCell ⟨g,3,none⟩ v) g c0 c1 c2 v:=by
 obtain ⟨d0,d1,d2,d3,f0,f1,f2,f3⟩:=h
 have z:=cell_lt d0
 exact ⟨by simp [go_sem,d0],by simp [go_sem,d1],by simp [go_sem,d2],by simp [go_sem,d3],by simp [go_sem,f0],by simp [go_sem,f1],by simp [go_sem,f2],by simp [go_sem,f3]⟩
theorem Own4.far3 {h:Nat} {x0 x1 x2 x3 v:Value} (H:Own4 w h x0 x1 x2 x3) (hne:¬ h=g):Own4 (w.setCell ⟨g,3,none⟩ v) h x0 x1 x2 x3:=
 H.but ((But.refl [g] _).setCell (.inl (by simp)) _) (by simpa using hne)
def Act5 (W:World) (g:Nat) (kd a f n:Int) (q:Option Addr) (j c:Nat):Prop:=W.cell? ⟨g,0,none⟩=some (.int .u8 kd)/\W.cell? ⟨g,1,none⟩=some (.int .i64 a)/\W.cell? ⟨g,2,none⟩=some (.slice q j c)/\W.cell? ⟨g,3,none⟩=some (.int .u8 f)/\W.cell? ⟨g,4,none⟩=some (.int .i64 n)/\W.frozen? ⟨g,1,none⟩=false/\W.frozen? ⟨g,2,none⟩=false
theorem Act5.but {W:World} {l:List Nat} {kd a f n:Int} (h:Act5 W g kd a f n q j c) (k:But l W W') (hg:g ∉ l):Act5 W' g kd a f n q j c:=by
 obtain ⟨a0,a1,a2,a3,a4,f1,f2⟩:=h
 have z:=cell_lt a0
 exact ⟨(k.cell z hg 0).trans a0,(k.cell z hg 1).trans a1,(k.cell z hg 2).trans a2,(k.cell z hg 3).trans a3,(k.cell z hg 4).trans a4,(k.frozen z hg 1).trans f1,(k.frozen z hg 2).trans f2⟩
theorem Act5.ext {W:World} {kd a f n:Int} (h:Act5 W g kd a f n q j c) (k:Ext W W'):Act5 W' g kd a f n q j c:=h.but (l:=[]) (But.ofExt k) (by simp)
theorem Act5.set1 {kd a f n v:Int} (h:Act5 w g kd a f n q j c):Act5 (w.setCell ⟨g,1,none⟩ (.int .i64 v)) g kd v f n q j c:=by
 obtain ⟨a0,a1,a2,a3,a4,f1,f2⟩:=h
 have z:=cell_lt a0
 exact ⟨by simp [go_sem,a0],by simp [go_sem,a1],by simp [go_sem,a2],by simp [go_sem,a3],by simp [go_sem,a4],by simp [go_sem,f1],by simp [go_sem,f2]⟩
theorem Act5.set2 {j' c':Nat} {kd a f n:Int} {q':Option Addr} (h:Act5 w g kd a f n q j c):Act5 (w.setCell ⟨g,2,none⟩ (.slice q' j' c')) g kd a f n q' j' c':=by
 obtain ⟨a0,a1,a2,a3,a4,f1,f2⟩:=h
 have z:=cell_lt a0
 exact ⟨by simp [go_sem,a0],by simp [go_sem,a1],by simp [go_sem,a2],by simp [go_sem,a3],by simp [go_sem,a4],by simp [go_sem,f1],by simp [go_sem,f2]⟩
def Slot4 (W0 W:World) (v:Value) (la ls:Bool) (c0 c1 c2 c3:Value):Prop:=(ls=true->la=true)/\(la=true -> ∃ (g:Nat) (x0 x1 x2 x3:Value),v = .pointer (some ⟨g,0,none⟩)/\W0.heap.size<=g/\Own4 W g x0 x1 x2 x3/\(ls=true->x0=c0/\x1=c1/\x2=c2/\x3=c3))
theorem Slot4.ext {W0 W:World} {v:Value} {la ls:Bool} {c2 c3:Value} (h:Slot4 W0 W v la ls c0 c1 c2 c3) (he:Ext W W'):Slot4 W0 W' v la ls c0 c1 c2 c3:=⟨h.1,fun hl=>by
 obtain ⟨g,x0,x1,x2,x3,h1,h2,h3,h4⟩:=h.2 hl
 exact ⟨g,x0,x1,x2,x3,h1,h2,h3.ext he,h4⟩⟩
theorem Slot4.fresh {W0 W:World} {v:Value} {la ls:Bool} {c2 c3:Value} (h:Slot4 W0 W v la ls c0 c1 c2 c3) (hl:la=true):(.pointer (some ⟨W.heap.size,0,none⟩):Value) ≠ v:=fun e=>by
 obtain ⟨g,x0,x1,x2,x3,h1,_,h3,_⟩:=h.2 hl
 rw [h1] at e
 have h5:=h3.lt
 injection e with e
 injection e with e
 injection e with e
 omega
theorem Slot4.make {W0 W:World} {v:Value} {la ls la' ls':Bool} {c2 c3 z0 z1 z2 z3:Value} (t:TypeId) (he:Ext W0 W) (h:Slot4 W0 W v la ls c0 c1 c2 c3) (hl:la=false) (e1:la'=true) (e2:ls'=ls) :
    Slot4 W0 (W.alloc (.cells #[z0,z1,z2,z3] t)) (.pointer (some ⟨W.heap.size,0,none⟩)) la' ls' c0 c1 c2 c3:=by
  subst e1;subst e2;have hn:ls'=true->False:=fun hs=>by rw [h.1 hs] at hl;cases hl
  exact ⟨fun _=>rfl,fun _=>⟨_,z0,z1,z2,z3,rfl,he.le,⟨by simp [go_sem],by simp [go_sem],by simp [go_sem],by simp [go_sem],by simp [go_sem],by simp [go_sem],by simp [go_sem],by simp [go_sem]⟩,fun hs=>(hn hs).elim⟩⟩
theorem Slot4.far {W0 W:World} {v:Value} {la ls:Bool} {c2 c3 p0 p1 p2 p3:Value} (h:Slot4 W0 W v la ls c0 c1 c2 c3) (hne:la=true->(.pointer (some ⟨g,0,none⟩):Value) ≠ v) :
    Slot4 W0 ((((W.setCell ⟨g,0,none⟩ p0).setCell ⟨g,1,none⟩ p1).setCell ⟨g,2,none⟩ p2).setCell ⟨g,3,none⟩ p3) v la ls c0 c1 c2 c3:=⟨h.1,fun hl=>by
  obtain ⟨b,x0,x1,x2,x3,rfl,h2,h3,h4⟩:=h.2 hl;exact ⟨b,x0,x1,x2,x3,rfl,h2,h3.far (fun e=>hne hl (by rw [e])),h4⟩⟩
def Hp.shiftA (k:Nat) (x:Hp.Act'):Hp.Act':=
 { x with a:=if x.kind=2 \/ x.kind=3 then wrap64 (wrap64 (x.a-k)+k) else wrap64 (x.a-k),list:=x.list.map fun v=>wrap64 (v-k) }
def ActAm (w:World) (B:Nat) (p:Option Addr) (xs:List Value) (k:Nat) (x:Hp.Act'):Prop:=
 ∃ q c f,ActOk x f/\xs[k * 5]? = some (.int .u8 x.kind)/\xs[k * 5+1]? = some (.int .i64 x.a)/\xs[k * 5+2]? = some (.slice q x.list.length c)/\xs[k * 5+3]? = some (.int .u8 f)/\xs[k * 5+4]? = some (.int .i64 x.n)/\SliceAt w q c x.list /\
  ∀ b o,q=some ⟨b,o,none⟩->B<=b/\b < w.heap.size /\ ∀ o',p ≠ some ⟨b,o',none⟩
def ActsRw (B:Nat) (w:World) (p:Option Addr) (c j:Nat) (l:List Hp.Act'):Prop:=∃ xs,w.ownsRow B 85 5 (.slice p j c) j xs /\ ∀ k x,k < j->l[k]? = some x->ActAm w B p xs k x
theorem ActsRw.far {o:Nat} {l:List Hp.Act'} (h:ActsRw B w p c j l) (e:p=some ⟨b,o,none⟩):B<=b/\b < w.heap.size:=by
 obtain ⟨xs,h1,_⟩:=h
 rcases h1.2 with ⟨e',_⟩ | ⟨g,cap,cur,e',hb,hg,_⟩
 . injection e' with e1
   rw [e1] at e
   cases e
 injection e' with e1
 rw [e1] at e
 cases e
 exact ⟨hb,(Array.getElem?_eq_some_iff.1 hg).1⟩
theorem ActsRw.but {bs:List Nat} {l:List Hp.Act'} (h:ActsRw B w p c j l) (k:But bs w w') (hb:∀ b ∈ bs,b < B):ActsRw B w' p c j l:=by
 obtain ⟨xs,h1,h2⟩:=h
 refine ⟨xs,⟨h1.1, ?_⟩,fun i x hi hx=>?_⟩
 . rcases h1.2 with e' | ⟨g,cap,cur,e',hb',hg,r⟩
   . exact .inl e'
   refine .inr ⟨g,cap,cur,e',hb', ?_,r⟩;rw [k.block g (Array.getElem?_eq_some_iff.1 hg).1 (fun hm=>by have:=hb g hm;omega)];exact hg
 obtain ⟨q,c',f,k1,k2,k3,k4,k5,k6,k7,k8⟩:=h2 i x hi hx
 exact ⟨q,c',f,k1,k2,k3,k4,k5,k6,k7.but k (fun b o e hm=>by have:=hb b hm;have:=(k8 b o e).1;omega),fun b o e=>⟨(k8 b o e).1,Nat.lt_of_lt_of_le (k8 b o e).2.1 k.size,(k8 b o e).2.2⟩⟩
theorem ActsRw.ext {l:List Hp.Act'} (h:ActsRw B w p c j l) (k:Ext w w'):ActsRw B w' p c j l:=h.but (bs:=[]) (But.ofExt k) (by simp)
theorem ActsRw.at_ {l:List Hp.Act'} (h:ActsRw B w p c l.length l):ActsAt w p c l:=by
 obtain ⟨xs,h1,h2⟩:=h
 rcases h1.2 with ⟨e,hz⟩ | ⟨g,cap,cur,e,hb,hg,r1,r2,r3,r4⟩
 . injection e with e1 e2 e3
   refine ⟨by omega,by omega,fun h0=>by omega⟩
 injection e with e1 e2 e3
 subst e1 e3
 refine ⟨r1,by unfold maxLen at r2;omega,fun _=>⟨g,0,rfl,(Array.getElem?_eq_some_iff.1 hg).1,fun j x hx=>?_⟩⟩
 have hj:j < l.length:=(List.getElem?_eq_some_iff.1 hx).1
 obtain ⟨q,c',f,k1,k2,k3,k4,k5,k6,k7,_⟩:=h2 j x hj hx
 have cl:∀ i v,xs[i]? = some v->w.cell? ⟨g,0+i,none⟩=some v:=fun i v hv=>by
  have:=h1.cells (g:=g) rfl i _ hv;rw [Addr.add_lit] at this;exact this
 exact ⟨q,c',f,k1,cl _ _ k2,cl _ _ k3,cl _ _ k4,cl _ _ k5,cl _ _ k6,k7⟩
theorem ActsRw.grow {cq:Nat} {l:List Hp.Act'} {x:Hp.Act'} {v':Value} {xs:List Value} (hB:B<=w.heap.size) (h1:w.ownsRow B 85 5 (.slice p j c) j xs) (h2:∀ k x,k < j->l[k]? = some x->ActAm w B p xs k x)
    (hx:l[j]? = some x) (hok:ActOk x f) (hs:SliceAt w q cq x.list) (hq:∀ b o,q=some ⟨b,o,none⟩->B<=b/\b < w.heap.size /\ ∀ o',p ≠ some ⟨b,o',none⟩)
    (hown:w'.ownsRow B 85 5 v' (j+1) (xs ++ [.int .u8 x.kind,.int .i64 x.a,.slice q x.list.length cq,.int .u8 f,.int .i64 x.n])) (hgr:w.grownBy w' (Value.slice p j c).ownBlock)
    (hor:∀ g cap,v' = .slice (some ⟨g,0,none⟩) (j+1) cap->p=some ⟨g,0,none⟩ \/ g=w.heap.size) :
    ∃ g c',v' = .slice (some ⟨g,0,none⟩) (j+1) c'/\ActsRw B w' (some ⟨g,0,none⟩) c' (j+1) l /\ ∀ b,(Value.slice p j c).ownBlock=some b->B<=b:=by
  have hlen:xs.length=j * 5:=h1.1;have ob:∀ b,(Value.slice p j c).ownBlock=some b->B<=b:=fun r hr=>by
   rcases h1.2 with ⟨e,_⟩ | ⟨g',cap',cur',e,hb',_⟩
   . rw [e] at hr;simp [Value.ownBlock] at hr
   rw [e] at hr;simp [Value.ownBlock] at hr;omega
  rcases hown.2 with ⟨_,hz⟩ | ⟨g,cap,cur,rfl,hb,hg,r⟩
  . omega
  refine ⟨g,cap,rfl,⟨_,hown, ?_⟩,ob⟩;have keep:∀ (q:Option Addr) (c2:Nat) (l:List Int),(∀ b o,q=some ⟨b,o,none⟩->B<=b/\b < w.heap.size /\ ∀ o',p ≠ some ⟨b,o',none⟩)->SliceAt w q c2 l->SliceAt w' q c2 l /\ ∀ b o,q=some ⟨b,o,none⟩->B<=b/\b < w'.heap.size /\ ∀ o',(some ⟨g,0,none⟩:Option Addr) ≠ some ⟨b,o',none⟩:=fun q c2 l hf hs=>by
   have kb:But ((Value.slice p j c).ownBlock).toList w w':=⟨hgr.os,hgr.tape,hgr.output,hgr.size,fun i hi hn=>hgr.block i hi (fun e=>hn (by rw [<- e];simp))⟩
   refine ⟨hs.but kb fun b o e hm=>?_,fun b o e=>⟨(hf b o e).1,Nat.lt_of_lt_of_le (hf b o e).2.1 hgr.size,fun o' e'=>?_⟩⟩
   . rcases h1.2 with ⟨e',_⟩ | ⟨g',cap',cur',e',hb',_⟩
     . injection e' with e1
       subst e1;simp [Value.ownBlock] at hm
     injection e' with e1
     subst e1;have:g'=b:=by simpa [Value.ownBlock,eq_comm] using hm
     subst this;exact (hf g' o e).2.2 0 rfl
   cases e'
   rcases hor _ _ rfl with hp | hg'
   . exact (hf g o e).2.2 0 hp
   have:=(hf g o e).2.1;omega
  intro k y hk hy
  by_cases e:k=j
  . subst e;rw [hx] at hy
    cases hy
    obtain ⟨n1,n2⟩:=keep q cq x.list hq hs;have ap:∀ i,(xs ++ [Value.int .u8 x.kind,.int .i64 x.a,.slice q x.list.length cq,.int .u8 f,.int .i64 x.n])[k * 5+i]? = [Value.int .u8 x.kind,.int .i64 x.a,.slice q x.list.length cq,.int .u8 f,.int .i64 x.n][i]? := fun i=>by
     rw [List.getElem?_append_right (by omega)]
     congr 1
     omega
    exact ⟨q,cq,f,hok,ap 0,ap 1,ap 2,ap 3,ap 4,n1,n2⟩
  obtain ⟨q',c',f',k1,k2,k3,k4,k5,k6,k7,k8⟩:=h2 k y (by omega) hy;obtain ⟨n1,n2⟩:=keep q' c' y.list k8 k7;have ap:∀ i v,xs[i]? = some v->(xs ++ [Value.int .u8 x.kind,.int .i64 x.a,.slice q x.list.length cq,.int .u8 f,.int .i64 x.n])[i]? = some v:=fun i v hv=>by
   rw [List.getElem?_append_left (List.getElem?_eq_some_iff.1 hv).1];exact hv
  exact ⟨q',c',f',k1,ap _ _ k2,ap _ _ k3,ap _ _ k4,ap _ _ k5,ap _ _ k6,n1,n2⟩
theorem Row.but1_ {bs:List Nat} (h:Row w base p c l) (k:But bs w w') (hf:∀ b o,p=some ⟨b,o,none⟩->b ∉ bs):Row w' base p c l:=h.but_ k hf
theorem wpOp_appendN {ops:Array Oper} {Q:Exit->Act->World->Prop} {o:Oper} {K:Act->World->Prop} {a:Act} {w:World} (s x:Operand) (hi:ops[i]? = some o)
    (ho:o.op = .call { callee:=.builtin .append,args:=#[s,x],argTypes:=#[22,22] }) (hw:Region.wanted o (yielded ops a.tmps)=true) {c b n:Nat} {p:Option Addr} {l:List Int} {y:Int} (hn:l.length=n) (hs:a.eval s = .slice p n c) (hx:a.eval x = .slice (some ⟨b,0,none⟩) 1 1)
    (hrow:Row w 0 p c l) (hy:w.cell? ⟨b,0,none⟩=some (.int .i64 y)) (hy1 : -9223372036854775808<=y) (hy2:y<=9223372036854775807) (hlen:n < 10000000)
    (h:∀ g cap w' row,Row w' 0 (some ⟨g,0,none⟩) cap (l ++ [y])->w.grownBy w' row->(∀ r,row=some r->p=some ⟨r,0,none⟩)->(p=some ⟨g,0,none⟩ \/ g=w.heap.size)->g < w'.heap.size->K (a.put o.dst (.slice (some ⟨g,0,none⟩) (n+1) cap)) w'):wpOp Tryz.prog ops Q i K a w:=by
  subst hn;exact wpOp_append s x hi ho hw hs hx hrow hy hy1 hy2 hlen h
theorem shift_take {q:Nat} {x:Hp.Act'} {v:Int} (hv:Hp.rd x.list j=some v):(Hp.shiftA q x).list.take (j+1)=(Hp.shiftA q x).list.take j ++ [wrap64 (v-q)]:=by
 refine take_snocI ?_
 unfold Hp.rd at hv ⊢
 show (x.list.map _)[j]? = _
 rw [List.getElem?_map,hv]
 rfl
theorem shift_len {q:Nat} {x:Hp.Act'}:(Hp.shiftA q x).list.length=x.list.length:=List.length_map _
theorem shift_take_len {q:Nat} {x:Hp.Act'} (hj:j<=x.list.length):((Hp.shiftA q x).list.take j).length=j:=by
 rw [List.length_take,shift_len]
 omega
theorem Row.words_ (h:Row w base (some ⟨g,0,none⟩) c l):WordsAt w g l:=by
 refine ⟨?_,h.2⟩
 rcases h.1.2 with ⟨e,_⟩ | ⟨g',cap,cur,e,hb,hg,r1,r2,r3,r4⟩
 . injection e with e1
   cases e1
 injection e with e1
 cases e1
 refine ⟨cur.toList.drop l.length, ?_⟩
 rw [hg]
 congr 2
 have:ints l=cur.toList.take l.length:=by simpa using r4.symm
 rw [this,List.take_append_drop]
theorem play_shift {ch:Nat->List Nat} (hw:Hp.Wf S 60 L ch) {bl:List Hp.Act'} (h:bl.length<=60) (hf:∀ x ∈ bl,0<=x.fault):∃ s',Hp.Sc.play ⟨S,[],[]⟩ bl=some s'/\s'.S.words.length=S.words.length:=by
 obtain ⟨s',e,_,g⟩:=Hp.play_good bl ⟨S,[],[]⟩ 60 ⟨L,ch,hw⟩ (by omega) hf
 exact ⟨s',e,g.len⟩
section
variable {P:Program} {ops:Array Oper} {Q:Exit->Act->World->Prop} {md:Region.Mode} {S:World->Prop}
theorem wpAnyR_do1 {oi:Oper} {fuel:Nat} {listed:Array Bool} {a:Act} (i:Nat) (V:Value->World->Prop) (hi:ops[i]? = some oi)
    (hr:Region.ready md ops listed=[i]) (hw:Region.wanted oi (yielded ops a.tmps)=true)
    (hrun:∀ w',Ext w w'->S w'->(∃ f args,(execOp a.eval oi).run P w' = .ok (.enter f args) w'/\Calls P f args w' fun e w''=>∃ v,e = .returned v/\V v w'') \/ ∃ v w'',(execOp a.eval oi).run P w' = .ok (.value v) w''/\V v w'')
    (hVS:∀ v w'',V v w'' -> ∀ W,Ext w'' W->S W)
    (h:∀ v w'',V v w''->wpAnyR P md ops Q (fun W=>Ext w'' W) Ext fuel (listed.setIfInBounds i true) (a.put oi.dst v) w''):wpAnyR P md ops Q S Ext (fuel+1) listed a w:=
  wpAnyR_do V Ext.refl (fun _ _ _=>Ext.trans) hi (by rw [hr];simp) (by rw [hr];simp) hw hrun hVS h
end
theorem SAt.first (h:SAt w sp sc op oc pa ca z o acts) (k:Nat):SAt w sp sc op oc pa ca z o (acts.take k):=
 { h with
   n3:=fun b o' j x q c hp hx hc hq=>by
    rw [List.getElem?_take] at hx
    split at hx
    . exact h.n3 b o' j x q c hp hx hc hq
    cases hx
   acts:=
    { le:=Nat.le_trans (List.length_take_le' _ _) h.acts.le
      cap:=h.acts.cap
      cells:=fun h0=>by
       obtain ⟨b,o',e,hb,hc⟩:=h.acts.cells (by simp at h0;omega);refine ⟨b,o',e,hb,fun j x hx=>?_⟩;rw [List.getElem?_take] at hx
       split at hx
       . exact hc j x hx
       . cases hx } }
theorem Hp.Ready.first (h:Hp.Ready z o n acts) (k:Nat):Hp.Ready z o n (acts.take k):=
 { h with few:=Nat.le_trans (List.length_take_le' _ _) h.few,short:=fun x hx=>h.short x (List.mem_of_mem_take hx) }
theorem wrap_range (n:Int) : -9223372036854775808<=wrap64 n/\wrap64 n<=9223372036854775807:=by
 rw [<- IntWalk.i64_left,IntKind.wrap_i64]
 omega
theorem Hp.shift_ok {x:Hp.Act'} (h:ActOk x f):ActOk (Hp.shiftA k x) f:=by
 refine { h with a1:=?_,a2:=?_,len:=?_ }
 . show -9223372036854775808<=(if x.kind=2 \/ x.kind=3 then _ else _)
   split <;> exact (wrap_range _).1
 . show (if x.kind=2 \/ x.kind=3 then _ else _)<=9223372036854775807
   split <;> exact (wrap_range _).2
 show (x.list.map _).length<=1000
 rw [List.length_map]
 exact h.len
set_option maxRecDepth 100000 in
set_option maxHeartbeats 16000000 in
theorem heapSound {n:Int} {at_:Int} (l1:0<=at_) (u1:at_<=255) (h:SAt w sp sc op oc pa ca z o acts) :
    Calls Tryz.prog 9 #[.agg #[.slice sp z.length sc,.slice op o.length oc,.int .i64 n,.slice pa acts.length ca],.int .u8 at_] w fun e w'=>e = .returned (.bool true)/\Ext w w':=by
  have E0:Ext w (w.alloc (.cells #[.slice sp z.length sc,.slice op o.length oc,.int .i64 n,.slice pa acts.length ca] 25)):=Ext.alloc (Ext.refl _) _;have H:=hZ (h.ext E0);have RD:=hZ (lReady (n:=n) (h.ext E0))
  cases hr:Hp.readyB z o n acts with
  | false=>
   rw [hr] at RD;clear h hr H;go_enter Tryz.func9,Tryz.ntmps9
   go_wp2_with (first
    | (go_at_call 40;refine (RD.out).mono ?_;rintro e w1 ⟨rfl,hb1⟩;obtain ⟨hc1,hf1,hs1⟩:=hb1.cells)
    | (go_at_call 15;refine (awake_any _).mono ?_;rintro e w2 ⟨rfl,hb2⟩))
   go_returns;exact ⟨rfl,(E0.trans hb1).trans hb2⟩
  | true=>
   rw [hr] at RD;obtain ⟨k,rfl,hrd⟩:=Hp.ready_ok hr;have HR:=hZ hrd;have HE0:=hZ E0;have HC:=hZ (show (w.alloc (.cells #[.slice sp z.length sc,.slice op o.length oc,.int .i64 k,.slice pa acts.length ca] 25)).cell? ⟨w.heap.size,0,none⟩=some (.slice sp z.length sc)/\(w.alloc (.cells #[.slice sp z.length sc,.slice op o.length oc,.int .i64 k,.slice pa acts.length ca] 25)).cell? ⟨w.heap.size,1,none⟩=some (.slice op o.length oc)/\(w.alloc (.cells #[.slice sp z.length sc,.slice op o.length oc,.int .i64 k,.slice pa acts.length ca] 25)).cell? ⟨w.heap.size,2,none⟩=some (.int .i64 k)/\(w.alloc (.cells #[.slice sp z.length sc,.slice op o.length oc,.int .i64 k,.slice pa acts.length ca] 25)).cell? ⟨w.heap.size,3,none⟩=some (.slice pa acts.length ca) by refine ⟨?_, ?_, ?_, ?_⟩ <;> go_simp);have few:=hrd.few;clear h hr hrd E0;obtain ⟨K,rfl⟩:∃ A:Nat,at_=A:=⟨at_.toNat,by omega⟩
   obtain ⟨i0,hi,hz0,hz1,hz2⟩:=info_parts act_info;go_enter Tryz.func9,Tryz.ntmps9
   go_wp2_with fail
   generalize (w.alloc (.cells #[.slice sp z.length sc,.slice op o.length oc,.int .i64 k,.slice pa acts.length ca] 25))=w0 at H HE0 HC RD ⊢;generalize w.heap.size=gb at HC ⊢;obtain ⟨m,hm⟩:∃ m,acts.length=m:=⟨_,rfl⟩
   have HM:=hZ hm;rw [hm] at few HC ⊢;rw [hm] at RD;obtain ⟨c0,c1,c2,c3⟩:=HC.out;have z0:=cell_lt c0;clear HC hm;go_upto_region 3 with (go_at_call 40;refine (RD.out).mono ?_;rintro e w1 ⟨rfl,hb1⟩;obtain ⟨hc1,hf1,hs1⟩:=hb1.cells)
   have b0:=(hb1.cell z0 0).trans c0;have b1:=(hb1.cell z0 1).trans c1;have b2:=(hb1.cell z0 2).trans c2;have b3:=(hb1.cell z0 3).trans c3;have y0:=cell_lt b0;have H1:=hZ (H.out.ext hb1);have HE1:=hZ (HE0.out.trans hb1);clear RD H HE0 c0 c1 c2 c3 z0 hb1 hc1 hf1 hs1;have q1:IntKind.i64.wrap ((m:Int)+1)=(m:Int)+1:=IntWalk.i64_in _ (by omega);have q2:((m:Int)+1 == 0)=false:=by simp;omega
   obtain ⟨q,hq⟩:∃ q:Nat,K % (m+1)=q:=⟨_,rfl⟩
   have hqm:q<=m:=by have:=Nat.mod_lt K (show 0 < m+1 by omega);omega
   have q3:(K:Int) % ((m:Int)+1)=(q:Int):=by rw [<- hq];simp
   go_upto_region 4 with fail
   rw [q3];clear hq q1 q2 q3;have PR82:=hZ (fun (ww:World) (hSw:Ext w1 ww)=>And.intro ((hSw.cell y0 0).trans b0) (And.intro ((hSw.cell y0 1).trans b1) (And.intro ((hSw.cell y0 2).trans b2) ((hSw.cell y0 3).trans b3))));refine wp_region_held_drew (S:=fun W=>Ext w1 W) (by kernel_rfl) ?_ (fun hS=>?_)
   . exact exx
   refine' wpAnyH_take (i:=0) (v:=?v0_1) rfl (by kernel_rfl) (by kernel_rfl) (by kernel_rfl) (fun _ _ _ h=>h) (Or.inl ⟨by rfl, ?hy0_1⟩) (by assumption) ?rest0_1
   case hy0_1=>(intro w q;obtain ⟨k0,k1,k2,k3⟩:=PR82.out w q;go_simp;try with_reducible rfl)
   refine layy ?_;refine' wpAnyH_take (i:=1) (v:=?v1_2) rfl (by kernel_rfl) (by kernel_rfl) (by kernel_rfl) (fun _ _ _ h=>h) (Or.inl ⟨by rfl, ?hy1_2⟩) (by assumption) ?rest1_2
   case hy1_2=>(intro w q;obtain ⟨k0,k1,k2,k3⟩:=PR82.out w q;go_simp;try with_reducible rfl)
   refine layy ?_;refine wpAnyH_slots [2,3,4,5] [6,7] (fun L vs W=>∃ v1 v2:Value,vs=[v1,v2]/\Ext w1 W/\Slot4 w1 W v1 (L 2) (L 4) (.slice sp z.length sc) (.slice op o.length oc) (.int .i64 k) (.slice pa m ca)/\Slot4 w1 W v2 (L 3) (L 5) (.slice sp z.length sc) (.slice op o.length oc) (.int .i64 k) (.slice pa m ca)/\(L 2=true->L 3=true->v1 ≠ v2)) (by kernel_rfl) (by kernel_rfl) ?h0w2 ?hstepsw2 ?hendw2
   case h0w2=>exact ⟨_,_,rfl,hS,⟨(fun h=>by cases h),(fun h=>by cases h)⟩,⟨(fun h=>by cases h),(fun h=>by cases h)⟩,(fun h=>by cases h)⟩
   case hstepsw2=>
    refine StepsInv.cons rfl ?_ (StepsInv.cons rfl ?_ (StepsInv.cons rfl ?_ (StepsInv.cons rfl ?_ StepsInv.nil)))
    all_goals (try simp only [List.getElem_toArray,List.getElem_cons_zero,List.getElem_cons_succ])
    all_goals
     rintro L a w ⟨vs,ha,v1,v2,rfl,hE,J1,J2,D0_1⟩ hL hC;obtain rfl:=ha;intro K' hK
     (try simp only [putAll,Act.put,List.setIfInBounds_toArray,List.set_cons_zero,List.set_cons_succ])
    . go_simp;exact hK.out _ _ (hE.alloc _) ⟨[.pointer (some ⟨w.heap.size,0,none⟩),v2],rfl,_,_,rfl,hE.alloc _,J1.make _ hE hL rfl rfl,J2.ext (Ext.alloc (Ext.refl _) _),fun _ h=>J2.fresh h⟩
    . go_simp;exact hK.out _ _ (hE.alloc _) ⟨[v1,.pointer (some ⟨w.heap.size,0,none⟩)],rfl,_,_,rfl,hE.alloc _,J1.ext (Ext.alloc (Ext.refl _) _),J2.make _ hE hL rfl rfl,fun h _=>(J1.fresh h).symm⟩
    . have ca:L 2=true:=hC ⟨2,.data⟩ (by simp) rfl;obtain ⟨g,x0,x1,x2,x3,rfl,hg,ho,-⟩:=J1.2 ca;obtain ⟨d0,d1,d2,d3,f0,f1,f2,f3⟩:=id ho;go_simp;exact hK.out _ _ (Ext.setCell (Ext.setCell (Ext.setCell (Ext.setCell hE hg _) hg _) hg _) hg _) ⟨[_,v2],rfl,_,_,rfl,Ext.setCell (Ext.setCell (Ext.setCell (Ext.setCell hE hg _) hg _) hg _) hg _,⟨fun _=>ca,fun _=>⟨g,_,_,_,_,rfl,hg,ho.set,fun _=>⟨rfl,rfl,rfl,rfl⟩⟩⟩,J2.far (fun h=>D0_1 ca h),D0_1⟩
    have ca:L 3=true:=hC ⟨3,.data⟩ (by simp) rfl;obtain ⟨g,x0,x1,x2,x3,rfl,hg,ho,-⟩:=J2.2 ca;obtain ⟨d0,d1,d2,d3,f0,f1,f2,f3⟩:=id ho;go_simp;exact hK.out _ _ (Ext.setCell (Ext.setCell (Ext.setCell (Ext.setCell hE hg _) hg _) hg _) hg _) ⟨[v1,_],rfl,_,_,rfl,Ext.setCell (Ext.setCell (Ext.setCell (Ext.setCell hE hg _) hg _) hg _) hg _,J1.far (fun h=>(D0_1 h ca).symm),⟨fun _=>ca,fun _=>⟨g,_,_,_,_,rfl,hg,ho.set,fun _=>⟨rfl,rfl,rfl,rfl⟩⟩⟩,D0_1⟩
   rintro L _ w2 ⟨v1,v2,rfl,Ew2,J1,J2,D0_1⟩ hall;obtain ⟨g6,y0,y1,y2,y3,rfl,far6,B6,ho⟩:=J1.2 (hall 2 (by simp));obtain ⟨rfl,rfl,rfl,rfl⟩:=ho (hall 4 (by simp));clear ho;obtain ⟨g7,y0,y1,y2,y3,rfl,far7,B7,ho⟩:=J2.2 (hall 3 (by simp));obtain ⟨rfl,rfl,rfl,rfl⟩:=ho (hall 5 (by simp));clear ho;have N0_1:g6 ≠ g7:=fun e=>D0_1 (hall 2 (by simp)) (hall 3 (by simp)) (by rw [e])
   clear hall J1 J2 D0_1;simp only [putAll,Act.put,List.setIfInBounds_toArray,List.set_cons_zero,List.set_cons_succ];have le:=H1.out.acts.le;rw [HM.out] at le;have cap:=H1.out.acts.cap;have k3:=(Ew2.cell y0 3).trans b3;obtain ⟨d60,d61,d62,d63,f60,f61,f62,f63⟩:=id B6;obtain ⟨d70,d71,d72,d73,f70,f71,f72,f73⟩:=id B7;have x6:=cell_lt d60;have x7:=cell_lt d70;have BL:=hZ (show ∀ t,q+t < m -> ∃ x,acts[q+t]? = some x from fun t ht=>⟨acts[q+t]'(by rw [HM.out];exact ht),List.getElem?_eq_getElem _⟩);obtain ⟨bl,hbl⟩:∃ bl,(acts.drop q).map (Hp.shiftA q)=bl:=⟨_,rfl⟩
   have HBL:=hZ hbl;have SH:=hZ HR.out.short;go_upto_region 6 with fail
   refine cut_world (F:=fun W=>Hid (Own4 W g6 (.slice sp z.length sc) (.slice op o.length oc) (.int .i64 k) (.slice pa q ca))/\Hid (Own4 W g7 (.slice sp z.length sc) (.slice op o.length oc) (.int .i64 k) (.slice none 0 0))/\Hid (Ext w1 W)) ⟨hZ (B6.set3.far3 N0_1),hZ ((B7.far3 (fun e=>N0_1 e.symm)).set3),hZ (Ext.setCell (Ext.setCell Ew2 far6 _) far7 _)⟩ ?_;rintro w3 ⟨O6,O7,E3⟩;clear d60 d61 d62 d63 f60 f61 f62 f63 d70 d71 d72 d73 f70 f71 f72 f73 B6 B7 k3 Ew2 x6 x7 hbl;have A1:=hZ (H1.out.acts.at_ SH.out);have z6:=O6.out.lt;have z7:=O7.out.lt;obtain ⟨B,hB⟩:∃ B,w3.heap.size=B:=⟨_,rfl⟩
   have HB:=hZ hB;rw [hB] at z6 z7;clear hB
   go_wp2_with fail
   go_loopg [8] m (fun g i wr=>∃ (t:Nat) (p:Option Addr) (c:Nat),q+t<=m/\m-(q+t)<=g/\i = .int .i64 ((q:Int)+t)/\Hid (But [g7] w3 wr)/\Hid (ActsRw B wr p c t bl)/\Hid (Own4 wr g7 (.slice sp z.length sc) (.slice op o.length oc) (.int .i64 k) (.slice p t c)))
   case atStart=>exact ⟨0,none,0,by omega,by omega,by simp,hZ (But.refl _ _),hZ ⟨[],World.ownsRow_nil _ _ _ _,fun k x hk=>by omega⟩,O7⟩
   case round=>
    obtain ⟨t,p,c,ht,hg,rfl,BU,R,O⟩:=hrel;clear O7;obtain ⟨wo,rfl⟩:∃ wo,wo=wr:=⟨_,rfl⟩
    have hBr:B<=wo.heap.size:=by have:=BU.out.size;rw [HB.out] at this;exact this
    have ER := Lib.hid (But.toExt E3.out BU.out (fun b hb => by have : b = g7 := by simpa using hb
                                                                omega))
    have k3:=(ER.out.cell y0 3).trans b3
    by_cases hlt:q+t < m
    . obtain ⟨x,hx⟩:=BL.out t hlt;obtain ⟨b,oo,rfl,hb,hc⟩:=A1.out.cells (by rw [HM.out];omega);obtain ⟨q',c',f,ok,d0,d1,d2,d3,d4,hs⟩:=hc _ x hx;have a0:=(ER.out.cell hb _).trans d0;have a1:=(ER.out.cell hb _).trans d1;have a2:=(ER.out.cell hb _).trans d2;have a3:=(ER.out.cell hb _).trans d3;have a4:=(ER.out.cell hb _).trans d4;have HS:=hZ (hs.ext ER.out);have HOK:=hZ ok;have HX:=hZ hx;have tk:decide ((q:Int)+(t:Int) < (m:Int))=true:=dT;clear hc d0 d1 d2 d3 d4 hs ok hx;go_upto_region 11 with fail
      obtain ⟨g9,hg9⟩:∃ g9,wo.heap.size=g9:=⟨_,rfl⟩
      have HG9:=hZ hg9;refine cut_world (F:=fun W=>Hid (Ext wo W)/\Hid (Act5 W g9 x.kind (wrap64 (x.a-q)) f x.n q' x.list.length c')) ⟨hZ exx,hZ (by rw [<- hg9];exact ⟨by go_simp,by go_simp,by go_simp,by go_simp,by go_simp,by go_simp,by go_simp⟩)⟩ ?_;rintro w5 ⟨E5,P5⟩;rw [hg9];clear hg9;obtain ⟨p0,p1,p2,p3,p4,pf1,pf2⟩:=P5.out;obtain ⟨bb,hbb⟩:∃ bb:Bool,decide (x.kind=2 \/ x.kind=3)=bb:=⟨_,rfl⟩
      have HBB:=hZ hbb;clear hbb
      go_cut [61] (fun s61 W=>s61 = .bool bb/\W=w5)
      case first=>
       by_cases e2:x.kind=2
       . have t2:(x.kind == 2)=true:=by simpa using e2
         have e:bb=true:=by rw [<- HBB.out];exact decide_eq_true (.inl e2)
         subst e;clear e2
         go_wp2_with fail
         go_meet
         exact ⟨rfl,rfl⟩
       have t2:(x.kind == 2)=false:=by simpa using e2
       by_cases e3:x.kind=3
       . have t3:(x.kind == 3)=true:=by simpa using e3
         have e:bb=true:=by rw [<- HBB.out];exact decide_eq_true (.inr e3)
         subst e;clear e2 e3
         go_wp2_with fail
         go_meet
         exact ⟨rfl,rfl⟩
       have t3:(x.kind == 3)=false:=by simpa using e3
       have e:bb=false:=by rw [<- HBB.out];exact decide_eq_false (fun h=>h.elim e2 e3)
       subst e;clear e2 e3
       go_wp2_with fail
       go_meet
       exact ⟨rfl,rfl⟩
      case rest=>
      obtain ⟨rfl,rfl⟩:=hcut
      go_upto_if 61 with fail
      go_cut [] (fun W=>Hid (Ext wo W)/\Hid (Act5 W g9 x.kind (Hp.shiftA q x).a f x.n q' x.list.length c'))
      case first=>
       cases bb with
       | true=>
        have ea:=hZ (show (Hp.shiftA q x).a=wrap64 (wrap64 (x.a-q)+q) from if_pos (of_decide_eq_true HBB.out))
        go_wp2_with fail
        go_meet
        exact ⟨hZ (by have:=E5.out;have:=HG9.out;exact exx),hZ (by rw [ea.out];exact P5.out.set1)⟩
       | false=>
        have ea:=hZ (show (Hp.shiftA q x).a=wrap64 (x.a-q) from if_neg (of_decide_eq_false HBB.out))
        go_wp2_with fail
        go_meet
        exact ⟨E5,hZ (by rw [ea.out];exact P5.out)⟩
      case rest=>
      obtain ⟨E6,P6⟩:=hcut;clear E5 P5 p0 p1 p2 p3 p4 pf1 pf2 HBB a0 a1 a3 a4;obtain ⟨p0,p1,p2,p3,p4,pf1,pf2⟩:=P6.out;have P7:=hZ (P6.out.set2 (q':=none) (j':=0) (c':=0));have E7:=hZ (Ext.setCell E6.out (show wo.heap.size<=g9 by rw [HG9.out];exact Nat.le_refl _) (p:=⟨g9,2,none⟩) (.slice none 0 0));go_upto_region 14 with fail
      refine cut_world (F:=fun W=>Hid (Ext wo W)/\Hid (Act5 W g9 x.kind (Hp.shiftA q x).a f x.n none 0 0)) ⟨E7,P7⟩ ?_;rintro w8 ⟨E8,P8⟩;clear E6 P6 E7 P7 p0 p1 p2 p3 p4 pf1 pf2;have zg:=cell_lt k3;have zb:=cell_lt a2;have xl14:=SH.out x (List.mem_of_getElem? HX.out)
      go_wp2_with fail
      go_loopg [10] x.list.length (fun g i W=>∃ (j:Nat) (qq:Option Addr) (cc:Nat),j<=x.list.length/\x.list.length-j<=g/\i = .int .i64 j/\Hid (Ext wo W)/\Hid (Act5 W g9 x.kind (Hp.shiftA q x).a f x.n qq j cc)/\Hid (Row W 0 qq cc ((Hp.shiftA q x).list.take j))/\Hid (∀ b o,qq=some ⟨b,o,none⟩->g9 < b))
      case atStart=>exact ⟨0,none,0,Nat.zero_le _,by omega,rfl,E8,P8,hZ (Row.nil _ _),hZ (fun b o e=>by cases e)⟩
      case round=>
       obtain ⟨j,qq,cc,hj,hg3,rfl,E,P,RR,FQ⟩:=hrel;clear E8 P8;have k3':=(E.out.cell zg 3).trans k3;have a2':=(E.out.cell zb _).trans a2;obtain ⟨p0,p1,p2,p3,p4,pf1,pf2⟩:=P.out;have z9:=cell_lt p0
       by_cases hlj:j < x.list.length
       . obtain ⟨v,hv⟩:=rd_get (l:=x.list) (j:=j) hlj;obtain ⟨bL,oL,rfl,hbL,hcL⟩:=HS.out.cells (by omega);have gv:=hcL j v hv;have tk2:decide ((j:Int) < (x.list.length:Int))=true:=dT;have ix1:(0:Int)<=(q:Int)+(t:Int):=by omega
         have ix2:(q:Int)+(t:Int) < (m:Int):=by omega
         have ix3:((q:Int)+(t:Int)).toNat=q+t:=by omega
         have wv:IntKind.i64.wrap (v-q)=wrap64 (v-q):=IntWalk.i64_left _;have LT:=hZ (shift_take_len (q:=q) hj);have TS:=hZ (shift_take (q:=q) hv);have wb:=wrap_range (v-q);clear hcL hv;go_upto_region 17 with fail
         refine wp_region_any (by kernel_rfl) ?_;refine wpAny_to_X (S:=(fun W:World=>Hid (Ext wo W)/\W.cell? ⟨g9,2,none⟩=some (.slice qq j cc))) (R:=Eq) 15 15 (fun _=>rfl) (by exact ⟨hZ (Ext.drew E.out),p2⟩) ?_ (by rfl);refine' tkE 0 rfl ?hy0_3 ?_
         case hy0_3=>(intro w _;go_simp;try with_reducible rfl)
         refine layy ?_;refine' tkE 1 rfl ?hy1_4 ?_
         case hy1_4=>(intro w hSw;(obtain ⟨n1,n2⟩:=hSw;have m3:=(n1.out.cell zg 3).trans k3;have m2:=(n1.out.cell zb _).trans a2;have mv:=(n1.out.cell hbL _).trans gv);go_simp;try with_reducible rfl)
         refine layy ?_;refine' tkE 2 rfl ?hy2_5 ?_
         case hy2_5=>(intro w _;go_simp;try with_reducible rfl)
         refine layy ?_;refine' tkE 3 rfl ?hy3_6 ?_
         case hy3_6=>(intro w hSw;(obtain ⟨n1,n2⟩:=hSw;have m3:=(n1.out.cell zg 3).trans k3;have m2:=(n1.out.cell zb _).trans a2;have mv:=(n1.out.cell hbL _).trans gv);go_simp;try with_reducible rfl)
         refine layy ?_;refine' tkE 4 rfl ?hy4_7 ?_
         case hy4_7=>(intro w _;go_simp;try with_reducible rfl)
         refine layy ?_;refine' tkE 5 rfl ?hy5_8 ?_
         case hy5_8=>(intro w _;go_simp;try with_reducible rfl)
         refine layy ?_;refine' tkE 6 rfl ?hy6_9 ?_
         case hy6_9=>(intro w _;go_simp;try with_reducible rfl)
         refine layy ?_;refine' tkE 7 rfl ?hy7_10 ?_
         case hy7_10=>(intro w hSw;(obtain ⟨n1,n2⟩:=hSw;have m3:=(n1.out.cell zg 3).trans k3;have m2:=(n1.out.cell zb _).trans a2;have mv:=(n1.out.cell hbL _).trans gv);go_simp;try with_reducible rfl)
         refine layy ?_;refine' tkE 8 rfl ?hy8_11 ?_
         case hy8_11=>(intro w _;go_simp;try with_reducible rfl)
         refine layy ?_;refine' tkE 9 rfl ?hy9_12 ?_
         case hy9_12=>(intro w _;go_simp;try with_reducible rfl)
         refine layy ?_;refine' tkE 10 rfl ?hy10_13 ?_
         case hy10_13=>(intro w hSw;(obtain ⟨n1,n2⟩:=hSw;have m3:=(n1.out.cell zg 3).trans k3;have m2:=(n1.out.cell zb _).trans a2;have mv:=(n1.out.cell hbL _).trans gv);go_simp;try with_reducible rfl)
         refine layy ?_;refine' tkE 11 rfl ?hy11_14 ?_
         case hy11_14=>(intro w _;go_simp;try with_reducible rfl)
         refine layy ?_;refine' tkE 12 rfl ?hy12_15 ?_
         case hy12_15=>(intro w _;go_simp;try with_reducible rfl)
         refine layy ?_;have ED:=hZ (Ext.drew E.out);have PD:=hZ (P.out.ext (Ext.drew (Ext.refl wr)));have RD:=hZ (RR.out.ext (Ext.drew (Ext.refl wr)));change wpAnyX _ _ _ _ _ _ _ _ _ _ _ (World.drew wr);generalize World.drew wr=wd at ED PD RD ⊢;clear E P RR p0 p1 p2 p3 p4 pf1 pf2 z9 k3' a2';have EG:=hZ (ED.out.alloc (.cells #[.int .i64 (wrap64 (v-q))] 3));have PG:=hZ (PD.out.ext (Ext.alloc (Ext.refl wd) (.cells #[.int .i64 (wrap64 (v-q))] 3)));have RG:=hZ (RD.out.ext (Ext.alloc (Ext.refl wd) (.cells #[.int .i64 (wrap64 (v-q))] 3)));have ey:(wd.alloc (.cells #[.int .i64 (wrap64 (v-q))] 3)).cell? ⟨wd.heap.size,0,none⟩=some (.int .i64 (wrap64 (v-q))):=by simp [go_sem]
         have zd:wo.heap.size<=wd.heap.size:=ED.out.le;have zw:(wd.alloc (.cells #[.int .i64 (wrap64 (v-q))] 3)).heap.size=wd.heap.size+1:=by simp
         have z9:=cell_lt PD.out.1;refine wpAnyX_fork [13] (by kernel_rfl) (by simp) (by simp) ?_;intro i hi;obtain rfl:i=13:=by simpa using hi
         refine wpOp_value (i:=13) (v:=.slice (some ⟨wd.heap.size,0,none⟩) 1 1) (w'':=wd.alloc (.cells #[.int .i64 (wrap64 (v-q))] 3)) rfl (by rfl) (by go_simp) ⟨⟨EG,PG.out.2.2.1⟩, ?_⟩;refine layy ?_;generalize wd.alloc (.cells #[.int .i64 (wrap64 (v-q))] 3)=wg at EG PG RG ey zw ⊢;refine wpAnyX_fork [14] (by kernel_rfl) (by simp) (by simp) ?_;intro i hi;obtain rfl:i=14:=by simpa using hi
         refine wpOp_appendN (.tmp 80) (.tmp 92) rfl rfl (by rfl) (n:=j) LT.out rfl rfl RG.out ey wb.1 wb.2 (by omega) ?_;intro ga ca2 wa rowa hRa hGa hrowa hga hlta;have far:∀ r,rowa=some r->g9 < r:=fun r e=>FQ.out r 0 (hrowa r e)
         have EA:=hZ (Ext.grown EG.out hGa (fun r e=>by have:=far r e;have:=HG9.out;omega));have PA:=hZ (PG.out.but (l:=rowa.toList) ⟨hGa.os,hGa.tape,hGa.output,hGa.size,fun i hi hn=>hGa.block i hi (fun e=>hn (by rw [<- e];simp))⟩ (fun hm=>by have e:rowa=some g9:=(by simpa using hm);have:=far g9 e;omega));have FA:g9 < ga:=by
          rcases hga with hga | hga
          . exact FQ.out ga 0 hga
          omega
         rw [<- TS.out] at hRa;have RA:=hZ hRa;refine ⟨⟨EA,PA.out.2.2.1⟩, ?_⟩;refine layy ?_;refine wpAnyX_done (by kernel_rfl) ?_;intro wf ef _;subst ef;simp only [List.drop_succ_cons,List.drop_zero];obtain ⟨p0,p1,p2,p3,p4,pf1,pf2⟩:=PA.out;have kb9:But [g9] wa (wa.setCell ⟨g9,2,none⟩ (.slice (some ⟨ga,0,none⟩) (j+1) ca2)):=(But.refl _ _).setCell (.inl (by simp)) _;have P10:=hZ (PA.out.set2 (q':=some ⟨ga,0,none⟩) (j':=j+1) (c':=ca2))
         have R10 := Lib.hid (RA.out.but1_ kb9 (fun b o e hm => by cases e; have : ga = g9 := by simpa using hm
                                                                   omega))
         have E10 := Lib.hid (kb9.toExt EA.out (fun b hb => by have : b = g9 := by simpa using hb
                                                               have:=HG9.out;omega))
         have z9a:=cell_lt p0;clear hGa hrowa hga hlta hRa kb9 EG PG RG ey ED PD RD far
         go_wp2_with fail
         go_roundg (x.list.length-(j+1))
         case measure=>omega
         case rel=>exact ⟨j+1,some ⟨ga,0,none⟩,ca2,by omega,Nat.le_refl _,by go_num,E10,P10,R10,hZ (fun b o e=>by cases e;exact FA)⟩
       have e:j=x.list.length:=by omega
       subst e;have tk2:decide ((x.list.length:Int) < (x.list.length:Int))=false:=dF;have RL:=hZ (show SliceAt wr qq cc (Hp.shiftA q x).list by have:=RR.out.at_;rwa [List.take_of_length_le (by rw [shift_len];exact Nat.le_refl _)] at this);have RLT:=hZ (fun b o (e:qq=some ⟨b,o,none⟩)=>RR.out.lt e);have O2:=hZ (O.out.ext E.out);have R2:=hZ (R.out.ext E.out);have BLT:=hZ (show bl[t]? = some (Hp.shiftA q x) by
        rw [<- HBL.out,List.getElem?_map,List.getElem?_drop,HX.out];rfl)
       have PFAR:=hZ (fun b o (e:p=some ⟨b,o,none⟩)=>(R.out.far e).2);obtain ⟨o0,o1,o2,o3,of0,of1,of2,of3⟩:=O2.out;have zew:=E.out.le;have wBr:B<=wr.heap.size:=Nat.le_trans hBr zew;have EN:=hZ (Ext.alloc (Ext.refl wr) (.cells #[.int .u8 x.kind,.int .i64 (Hp.shiftA q x).a,.slice qq x.list.length cc,.int .u8 f,.int .i64 x.n] 85));clear RR k3;go_upto_region 8 with (at_builtin;refine cut_worldL (F:=fun W=>Hid (ActsRw B W p c t bl)/\Hid (Own4 W g7 (.slice sp z.length sc) (.slice op o.length oc) (.int .i64 k) (.slice p t c))/\Hid (SliceAt W qq cc (Hp.shiftA q x).list)/\Hid (Ext wo W)/\wr.heap.size+1=W.heap.size/\W.cell? ⟨wr.heap.size,0,none⟩=some (.int .u8 x.kind)/\W.cell? ⟨wr.heap.size,1,none⟩=some (.int .i64 (Hp.shiftA q x).a)/\W.cell? ⟨wr.heap.size,2,none⟩=some (.slice qq x.list.length cc)/\W.cell? ⟨wr.heap.size,3,none⟩=some (.int .u8 f)/\W.cell? ⟨wr.heap.size,4,none⟩=some (.int .i64 x.n)) ⟨hZ (R2.out.ext EN.out),hZ (O2.out.ext EN.out),hZ (RL.out.ext EN.out),hZ (E.out.trans EN.out),by simp,by go_simp,by go_simp,by go_simp,by go_simp,by go_simp⟩ ?_;rintro wg ⟨R3,O3,L3,E3',zz,n0,n1,n2,n3,n4⟩;obtain ⟨xs,own1,each1⟩:=R3.out;refine wpList_append_lies wg rfl _ _ 23 rfl B 85 i0 _ 5 56 Tryz.underlying23 hi hz0 hz1 hz2 rfl (by decide) (.slice p t c) t xs rfl own1 ⟨wr.heap.size,0,none⟩ 1 1 [.int .u8 x.kind,.int .i64 (Hp.shiftA q x).a,.slice qq x.list.length cc,.int .u8 f,.int .i64 x.n] rfl (by simp) (news5 n0 n1 n2 n3 n4) (by simp [Value.oneCell']) (by omega) (by unfold maxLen;omega) (by omega) (by omega) _ rfl ?_;intro g5 cap5 wh hown hgrow hor hlt5;rw [<- shift_len (q:=q)] at hown;obtain ⟨gN,c5,e5,R4',ob⟩:=ActsRw.grow (by omega) own1 each1 BLT.out (Hp.shift_ok HOK.out) L3.out (fun b o e=>by have h1:=FQ.out b o e;have h2:=RLT.out b o e;have h3:=HG9.out;exact ⟨by omega,by omega,fun o' e'=>by have:=PFAR.out b o' e';omega⟩) hown hgrow (fun g cap e=>by cases e;exact hor.imp (row_block own1 g5) id);cases e5;have KB:But ((Value.slice p t c).ownBlock).toList wg wh:=⟨hgrow.os,hgrow.tape,hgrow.output,hgrow.size,fun i hi hn=>hgrow.block i hi (fun e=>hn (by rw [<- e];simp))⟩;have R4:=hZ R4';have O4:=hZ (O3.out.but KB (fun hm=>by have:=ob g7 (by simpa using hm);omega));have BU4:=hZ ((BU.out.trans (But.ofExt E3'.out)).over KB (fun b hb=>.inr (by have:=ob b (by simpa using hb);have:=HB.out;omega)));clear hown hgrow hor hlt5 R4' KB own1 each1 R3 O3 L3 E3' n0 n1 n2 n3 n4 p0 p1 p2 p3 p4 pf1 pf2 o0 o1 o2 o3 of0 of1 of2 of3;obtain ⟨o0,o1,o2,o3,of0,of1,of2,of3⟩:=O4.out;have z7h:=cell_lt o0)
       have kb7:But [g7] wh (wh.setCell ⟨g7,3,none⟩ (.slice (some ⟨g5,0,none⟩) (t+1) cap5)):=(But.refl _ _).setCell (.inl (by simp)) _;have O5:=hZ (O4.out.set3 (v:=.slice (some ⟨g5,0,none⟩) (t+1) cap5))
       have R5 := Lib.hid (R4.out.but kb7 (fun b hb => by have : b = g7 := by simpa using hb
                                                          omega))
       have BU5:=hZ (BU4.out.trans kb7);clear kb7 O4 R4 BU4 o0 o1 o2 o3 of0 of1 of2 of3
       go_wp2_with fail
       go_roundg (m-(q+(t+1)))
       case measure=>omega
       case rel=>exact ⟨t+1,some ⟨g5,0,none⟩,cap5,by omega,Nat.le_refl _,by go_num,BU5,R5,O5⟩
    have e:q+t=m:=by omega
    have tk:decide ((q:Int)+(t:Int) < (m:Int))=false:=dF;have O6w:=hZ (O6.out.but BU.out (by simpa using N0_1));have blt:bl.length=t:=by rw [<- HBL.out,List.length_map,List.length_drop,HM.out];omega
    have AB:=hZ (show ActsAt wo p c bl from by have h:=R.out;rw [<- blt] at h;exact h.at_);have BLT:=hZ blt;have BLF:=hZ (show ∀ x ∈ bl,0<=x.fault from fun x hx=>by
     rw [<- HBL.out] at hx;obtain ⟨y,hy,rfl⟩:=List.mem_map.1 hx;exact H1.out.acts.fault y (List.mem_of_mem_drop hy))
    have PL0:=lPlayed ((H1.out.first q).ext ER.out) (HR.out.first q);rw [show (acts.take q).length=q by rw [List.length_take,HM.out];omega] at PL0;have PL:=hZ PL0;obtain ⟨s0,s1,s2,s3,-,-,-,-⟩:=O6w.out;have n1:=HR.out.n1;have n2:=HR.out.n2;clear blt PL0;go_upto_region 20 with (go_at_call 41;refine PL.out.mono ?_;rintro e w5 ⟨d,S,gq,cq,L,ch,rfl,PD,hw,rfl,rfl,rfl⟩)
    have HP:=hZ PD;have E5:=hZ (ER.out.trans PD.ext);have O75:=hZ (O.out.ext PD.ext);have WD:=hZ (Words_any PD.at_ (by omega));obtain ⟨s',hpl,hlen⟩:=play_shift hw (by rw [BLT.out];omega) BLF.out;have HPL:=hZ hpl;have HW:=hZ hw;have OWL:=hZ PD.at_.own_lt;have wn:0 < s'.S.words.length:=by omega
    clear PL PD hw hpl O6 O O6w R A1 BL SH s0 s1 s2 s3 k3;go_upto_region 23 with (go_at_call 20;refine WD.out.mono ?_;rintro e w6 ⟨gw,cw,rfl,hRW,hb6⟩)
    have E6:=hZ (E5.out.trans hb6);have x0:=(E6.out.cell y0 0).trans b0;have x1:=(E6.out.cell y0 1).trans b1;have zx:=cell_lt x0;have SW6:=hZ (HP.out.ws.ext hb6);have RW6:=hZ hRW.at_;have HB6:=hZ hb6;have IN:=hZ (fun W (hW:Ext w6 W)=>ints_any (SW6.out.ext hW) (fun e=>by cases e) (by omega));clear hRW hb6 WD;have pr83a:=fun u_ (h_:Ext w6 u_)=>(h_.cell zx 0).trans x0
    have pr83b:=fun u_ (h_:Ext w6 u_)=>(h_.cell zx 1).trans x1
    refine wp_region_plan (S:=fun W=>Ext w6 W) (R:=Ext) [false,false,false,false,false,true,false,true,false] (by kernel_rfl) Ext.refl (fun _ _ _=>Ext.trans) (by kernel_rfl) (fun _ _ d _ _ h=>by cases d <;> exact h) (by kernel_rfl) exx ?_;intro ops hops';have hops:=hZ hops';clear hops';have ES:=hZ (Ext.drew (Ext.refl w6));generalize World.drew w6=wd at ES ⊢;refine' tkP hops ?_;refine' tkP hops ?_;refine' tkP hops ?_;refine' tkP hops ?_;refine' tkP hops ?_;refine Plan.run (fun v W=>∃ g c,v = .slice (some ⟨g,0,none⟩) S.words.length c/\wd.heap.size<=g/\Row W 0 (some ⟨g,0,none⟩) c S.words/\Ext wd W) (by first | rfl | (rw [hops.out];rfl)) ?run5 ?vs5 ?next5
    case run5=>
     intro w' e1 _;refine .inl ⟨17,#[.slice (some ⟨gq,0,none⟩) S.words.length cq], ?_,(IN.out w' (ES.out.trans e1)).mono ?_⟩
     . go_simp
     rintro e w'' ⟨p',c',rfl,hR,hE,h0⟩;obtain ⟨g',rfl,_⟩:=hR.ptr (by omega);exact ⟨_,rfl,g',c',rfl,Nat.le_trans e1.le (hR.far rfl),hR.base0,e1.trans hE⟩
    case vs5=>
     rintro v W ⟨g,c,rfl,-,-,hE⟩ W' e1;exact ES.out.trans (hE.trans e1)
    rintro v w7 ⟨gx,cx,rfl,hgx,hRX,hE7⟩;have E7:=hZ hE7;have RX:=hZ hRX;have EGX:=hZ hgx;clear hgx hRX hE7;refine layy ?_;refine' tkP hops ?_;refine Plan.run (fun v W=>∃ b,v = .pointer (some ⟨b,0,none⟩)/\w7.heap.size<=b/\(W.cell? ⟨b,0,none⟩=some (.slice sp S.sizes.length sc)/\W.cell? ⟨b,1,none⟩=some (.slice op S.order.length oc)/\W.cell? ⟨b,2,none⟩=some (.slice (some ⟨gx,0,none⟩) S.words.length cx)/\W.frozen? ⟨b,2,none⟩=false)/\Ext w7 W) (by first | rfl | (rw [hops.out];rfl)) ?run7 ?vs7 ?next7
    case run7=>
     intro w' e1 _;refine .inr ⟨.pointer (some ⟨w'.heap.size,0,none⟩),w'.alloc (.cells #[.slice sp S.sizes.length sc,.slice op S.order.length oc,.slice (some ⟨gx,0,none⟩) S.words.length cx] 54), ?_,w'.heap.size,rfl,e1.le,⟨?_, ?_, ?_, ?_⟩,e1.trans (Ext.alloc (Ext.refl _) _)⟩ <;> go_simp
    case vs7=>
     rintro v W ⟨b,rfl,-,-,hE⟩ W' e1;exact hE.trans e1
    rintro v w8 ⟨xb,rfl,hxb,hX0,hE8⟩;have E8:=hZ hE8;have X0:=hZ hX0;have EXB:=hZ hxb;clear hxb hX0 hE8;refine layy ?_;refine' tkP hops ?_;refine Plan.done ?_;intro w9 e89 _;clear pr83a pr83b;have E9:=hZ (ES.out.trans (E7.out.trans (E8.out.trans e89)))
    have RWX:Hid (RW w9 ⟨xb,sp,sc,op,oc,gx,0,cx⟩ S):=hZ
     { c0:=(e89.cell (cell_lt X0.out.1) 0).trans X0.out.1
       c1:=(e89.cell (cell_lt X0.out.1) 1).trans X0.out.2.1
       c2:=(e89.cell (cell_lt X0.out.1) 2).trans X0.out.2.2.1
       f2:=(e89.frozen (cell_lt X0.out.1) 2).trans X0.out.2.2.2
       sizes:=H1.out.sizes.ext (E6.out.trans E9.out)
       order:=H1.out.order.ext (E6.out.trans E9.out)
       words:=(RX.out.words_.ext (E8.out.trans e89))
       le:=RX.out.at_.le
       cap:=RX.out.at_.cap
       go:=rfl
       apart:=by have h1:=EXB.out;have h2:=RX.out.lt rfl;show xb ≠ gx;omega
       far1:=fun h0 b o' e hm=>by
        obtain ⟨b',o'',e',hb',_⟩:=(H1.out.sizes.ext E6.out).cells h0;have e:sp=some ⟨b,o',none⟩:=e;rw [e'] at e
        cases e
        have h1:=EGX.out;have h2:=EXB.out;have h3:=ES.out.le;have h4:=E7.out.le;simp [Rd.own] at hm;omega
       far2:=fun h0 b o' e hm=>by
        obtain ⟨b',o'',e',hb',_⟩:=(H1.out.order.ext E6.out).cells h0;have e:op=some ⟨b,o',none⟩:=e;rw [e'] at e
        cases e
        have h1:=EGX.out;have h2:=EXB.out;have h3:=ES.out.le;have h4:=E7.out.le;simp [Rd.own] at hm;omega }
    have OX:=hZ (show w6.heap.size<=xb/\w6.heap.size<=gx by have h1:=EGX.out;have h2:=EXB.out;have h3:=ES.out.le;have h4:=E7.out.le;omega);have SM:=hZ (dSame_is (b:=true) (decide_eq_true rfl) (RW6.out.ext E9.out) (SW6.out.ext E9.out));clear RX X0 EXB EGX ES E7 E8 e89 IN SW6 RW6 x0 x1 zx
    have PLY:=hZ (fun (W:World) (hW:Ext w9 W)=>rPlay (wb:=w6) (B0:=60) (RWX.out.ext hW) ⟨L,ch,HW.out⟩ (by omega) (fun b hb=>by have:=OX.out;simp [Rd.own] at hb;rcases hb with rfl | rfl <;> omega) (E9.out.trans hW)
     (fun h0 b o' e=>by obtain ⟨b',o'',e',hb',_⟩:=(H1.out.sizes.ext E6.out).cells h0;have e:sp=some ⟨b,o',none⟩:=e;rw [e'] at e;cases e;exact hb')
     (fun h0 b o' e=>by obtain ⟨b',o'',e',hb',_⟩:=(H1.out.order.ext E6.out).cells h0;have e:op=some ⟨b,o',none⟩:=e;rw [e'] at e;cases e;exact hb')
     (AB.out.ext (HP.out.ext.trans HB6.out)) (by rw [BLT.out];omega) HPL.out)
    rw [BLT.out] at PLY;have c73:=(E9.out.cell (Nat.lt_of_lt_of_le O75.out.lt HB6.out.le) 3).trans ((HB6.out.cell O75.out.lt 3).trans O75.out.2.2.2.1);have z73:=cell_lt c73;go_upto_region 26 with (go_at_call 24;refine SM.out.mono ?_;rintro e wa ⟨rfl,hba⟩)
    have P10:=hZ (PLY.out wa hba);have c73':=(hba.cell z73 3).trans c73;go_upto_region 27 with (go_at_call 33;refine P10.out.mono ?_;rintro e wp ⟨p9,c9,r9,rfl,-,hW9,hb9,own9,hE9⟩)
    have E10:=hZ hE9;have R9:=hZ hW9;have OW9:=hZ own9;have cx9:=hW9.c2;rw [hb9] at cx9;have HB9:=hZ hb9;have c7p:=(E10.out.cell (Nat.lt_of_lt_of_le O75.out.lt HB6.out.le) 3).trans ((HB6.out.cell O75.out.lt 3).trans O75.out.2.2.2.1);have z7p:=cell_lt c7p;have zxb:=cell_lt cx9;have HA10:=hZ (HP.out.at_.ext (HB6.out.trans E10.out));have N7:=hZ (show g7 ∉ d.own from fun hm=>by have h1:=HP.out.own g7 hm;omega);have NX:=hZ (show xb ∉ d.own from fun hm=>by have h1:=OWL.out xb hm;have h2:=OX.out.1;have h3:=HB6.out.le;omega);have NG:=hZ (show r9.gb ∉ d.own from fun hm=>by have h1:=OWL.out r9.gb hm;have h2:=OW9.out r9.gb r9.gb_own;have h3:=HB6.out.le;omega);have DO:=hZ (fun (W:World) (hW:Ext wp W)=>lDoing (wa:=wo) (B0:=60) (HA10.out.ext hW) ⟨L,ch,HW.out⟩ (by omega) HP.out.own (HP.out.ext.trans (HB6.out.trans (E10.out.trans hW))) AB.out (by rw [BLT.out];omega) HPL.out);rw [BLT.out] at DO;clear hW9 hb9 own9 hE9 P10 PLY c73 c73' SM hba RWX E9 HB9;refine wp_region_seq (S:=fun W=>W.cell? ⟨g7,3,none⟩=some (.slice p t c)) (R:=Ext) (by kernel_rfl) Ext.refl ?_ ?_
    . exact ((Ext.drew (Ext.refl wp)).cell z7p 3).trans c7p
    have ED:=hZ (Ext.drew (Ext.refl wp));change wpAnyR _ _ _ _ _ _ _ _ _ (World.drew wp);generalize World.drew wp=wd2 at ED ⊢;refine' tkO 0 rfl ?h0_23 ?_
    case h0_23=>(intro w hSw;(have s3:=hSw);go_simp;try with_reducible rfl)
    refine layy ?_;refine' tkO 1 rfl ?h1_24 ?_
    case h1_24=>(intro w hSw;(have s3:=hSw);go_simp;try with_reducible rfl)
    refine layy ?_;refine' tkO 2 rfl ?h2_25 ?_
    case h2_25=>(intro w hSw;(have s3:=hSw);go_simp;try with_reducible rfl)
    refine layy ?_;refine wpAnyR_do1 3 (fun v W=>v = .bool true /\ ∃ gw2 cap2,HAt W { d with gw:=gw2,cap:=cap2 } s'.S/\But d.own wd2 W) rfl (by kernel_rfl) (by rfl) ?run3 ?vs3 ?next3
    case run3=>
     intro w' e1 _;refine .inl ⟨49,#[.pointer (some ⟨d.hb,0,none⟩),.slice p t c], ?_,(DO.out w' (ED.out.trans e1)).mono ?_⟩
     . go_simp
     rintro e w'' ⟨rfl,gw2,cap2,hA,hB⟩;exact ⟨_,rfl,rfl,gw2,cap2,hA,(But.ofExt e1).trans hB⟩
    case vs3=>
     rintro v W ⟨rfl,gw2,cap2,-,hB⟩ W' e1;have z:=Nat.lt_of_lt_of_le z7p ED.out.le;exact (e1.cell (Nat.lt_of_lt_of_le z hB.size) 3).trans ((hB.cell z N7.out 3).trans ((ED.out.cell z7p 3).trans c7p))
    rintro v wq ⟨rfl,gw2,cap2,hA2,hB2⟩;have HA2:=hZ hA2;have HB2:=hZ hB2;have cxq:=(hB2.cell (Nat.lt_of_lt_of_le zxb ED.out.le) NX.out 2).trans ((ED.out.cell zxb 2).trans cx9);have zxq:=cell_lt cxq;have SQ:=hZ ((R9.out.words.slice R9.out.le R9.out.cap).ext ED.out |>.but hB2 (fun b o' e=>by cases e;exact NG.out));clear hA2 hB2;refine layy ?_;refine' tkO 4 rfl ?h4_26 ?_
    case h4_26=>(intro w hSw;(have s3:=(hSw.cell zxq 2).trans cxq);go_simp;try with_reducible rfl)
    refine layy ?_;refine' tkO 5 rfl ?h5_27 ?_
    case h5_27=>(intro w hSw;(have s3:=(hSw.cell zxq 2).trans cxq);go_simp;try with_reducible rfl)
    refine layy ?_;refine' tkO 7 rfl ?h7_28 ?_
    case h7_28=>(intro w hSw;(have s3:=(hSw.cell zxq 2).trans cxq);go_simp;try with_reducible rfl)
    refine layy ?_;refine' tkO 8 rfl ?h8_29 ?_
    case h8_29=>(intro w hSw;(have s3:=(hSw.cell zxq 2).trans cxq);go_simp;try with_reducible rfl)
    refine layy ?_;refine' tkO 9 rfl ?h9_30 ?_
    case h9_30=>(intro w hSw;(have s3:=(hSw.cell zxq 2).trans cxq);go_simp;try with_reducible rfl)
    refine layy ?_;refine' tkO 10 rfl ?h10_31 ?_
    case h10_31=>(intro w hSw;(have s3:=(hSw.cell zxq 2).trans cxq);go_simp;try with_reducible rfl)
    refine layy ?_;refine wpAnyR_do1 6 (fun v W=>∃ g c,v = .slice (some ⟨g,0,none⟩) s'.S.words.length c/\SliceAt W (some ⟨g,0,none⟩) c s'.S.words/\Ext wq W) rfl (by kernel_rfl) (by rfl) ?run6 ?vs6 ?next6
    case run6=>
     intro w' e1 _;refine .inl ⟨39,#[.pointer (some ⟨d.hb,0,none⟩)], ?_,(lWordsOf (HA2.out.ext e1) wn).mono ?_⟩
     . go_simp
     rintro e w'' ⟨g,c,rfl,hR,hE⟩;exact ⟨_,rfl,g,c,rfl,hR.at_,e1.trans hE⟩
    case vs6=>
     rintro v W ⟨g,c,rfl,-,hE⟩ W' e1;exact hE.trans e1
    rintro v ws ⟨gz,cz,rfl,hSZ,hEZ⟩;have SZ:=hZ hSZ;have EZ:=hZ hEZ;clear hSZ hEZ;refine layy ?_;refine wpAnyR_do1 11 (fun v W=>v = .bool true/\Ext ws W) rfl (by kernel_rfl) (by rfl) ?run11 ?vs11 ?next11
    case run11=>
     intro w' e1 _;refine .inl ⟨24,#[.slice (some ⟨gz,0,none⟩) s'.S.words.length cz,.slice (some ⟨r9.gb,0,none⟩) s'.S.words.length r9.wc], ?_,(dSame_is (b:=true) (decide_eq_true rfl) (SZ.out.ext e1) (SQ.out.ext (EZ.out.trans e1))).mono ?_⟩
     . go_simp
     rintro e w'' ⟨rfl,hE⟩;exact ⟨_,rfl,rfl,e1.trans hE⟩
    case vs11=>
     rintro v W ⟨rfl,hE⟩ W' e1;exact hE.trans e1
    rintro v wt ⟨rfl,hET⟩;have ET:=hZ hET;clear hET;refine layy ?_;refine' tkL 12 ?_;refine' tkL 13 ?_;refine' tkR 14 (v:=.bool true) rfl (Or.inr ⟨by rfl,15,_, ?hx14_34, ?hy14_34⟩) ?rest14_34
    case hx14_34=>(intro w hSw;go_simp;try with_reducible rfl)
    case hy14_34=>exact fun w hE=>(awake_any _).mono (fun _ _ h=>⟨h.1,h.2,Ext.trans hE h.2⟩)
    refine layy ?_;refine' tkL 15 ?_;refine' tkL 16 ?_;refine wpAnyR_done (by kernel_rfl) ?_ _;intro wz _ EW;have FE:=hZ (HE1.out.trans (((But.toExt (E6.out.trans E10.out) ((But.ofExt ED.out).trans HB2.out) (fun b hb=>by have h1:=HP.out.own b hb;have h2:=ER.out.le;omega)).trans (EZ.out.trans ET.out)).trans EW))
    go_wp2_with fail
    go_returns;exact ⟨rfl,FE.out⟩
end Go.Proofs.YtdokmmhjmclmnaaGreat
