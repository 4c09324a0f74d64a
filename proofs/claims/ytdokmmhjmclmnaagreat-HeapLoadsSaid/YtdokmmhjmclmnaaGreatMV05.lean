/-
  Part 5 of a proof: HFn17 PL33 PN1 PO1 RegSt.
-/
import Derived.Test.YtdokmmhjmclmnaaGreatMV02
import Derived.Test.YtdokmmhjmclmnaaGreatMV04
set_option linter.unusedSimpArgs false
set_option linter.unusedVariables false
set_option linter.unusedSectionVars false
set_option linter.unnecessarySimpa false
namespace Go.Proofs.YtdokmmhjmclmnaaGreat
variable {W' w w' w0 wb:World} {B a b base c cap ce cn f g gb i j k lb m n oc s sc:Nat} {choice t x:Int} {G W fs l o xs z:List Int} {L:List Hp.Tl} {S S':Hp.Hs} {A N T:List Nat} {M:List (Nat × Int)} {op p pe pn q sp:Option Addr} {d:Hd}
open Go.RowKit Go.Maps
set_option maxRecDepth 100000 in
set_option maxHeartbeats 16000000 in
theorem free_any (h:HAt w d S) (hr:S.free a=some S') :
    Calls Tryz.prog 161 #[.pointer (some ⟨d.hb,0,none⟩),.int .i64 a] w (Turned d w (.tuple #[]) S'):=by
  obtain ⟨t,k,W,before,link,next,ht,hk,hW,hs,hx,W',rfl,hq⟩:=free_some hr;have hwk:=wide_le h hk;have sm:=h.small;have hle:=h.le;have hcap:=h.cap;have apn:=h.apart1;have apn':=h.apart1.symm;have c0:=h.c0;have c1:=h.c1;have z1:=h.lt;have hz:=HAt.zero_len hW;generalize hn:S.words.length=n at sm hle hz;have EN:=hZ hn;have EL:=hZ hz.1;have hzl:=hz.2;have H:=hZ (Now.refl h);have HTG:=hZ ht;have HK:=hZ hk;have HW:=hZ hW;have HS:=hZ hs;have HX:=hZ hx;have HQ0:=hZ hq;clear h hr ht hk hW hs hx hz hn hq;go_enter Tryz.func161,Tryz.ntmps161
  go_wp2_with fail
  have pr10a:=fun u_ (h_:Ext w u_)=>(h_.cell z1 0).trans c0
  have pr10b:=fun u_ (h_:Ext w u_)=>(h_.cell z1 1).trans c1
  refine wp_region_seq (S:=fun W=>Ext w W) (R:=Ext) (by kernel_rfl) Ext.refl ?_ ?_
  . exact exx
  refine' tkL 0 ?_;refine' tkL 1 ?_;refine' tkL 2 ?_;refine' tkL 3 ?_;refine' tkL 4 ?_;refine' tkL 5 ?_;refine' tkC 6 (.int .i64 t) 76 (fun w hE=>tag_any (H.out.toHAt.ext hE).c2 rfl H.out.le H.out.cap (H.out.toHAt.ext hE).words HTG.out) ?_;refine' tkC 7 (.int .i64 k) 123 (fun w hE=>wide_any (H.out.toHAt.ext hE).sizes HK.out (by omega)) ?_;refine' tkL 8 ?_;refine wpAnyR_done (by kernel_rfl) ?_ _;intro x1 _ Ex1;clear pr10a pr10b;have N0:=hZ (H.out.ext Ex1);have c3:=N0.out.c3;clear c0 c1 z1;go_upto_region 2 with (at_delete;refine wpList_delete_taken rfl _ _ rfl rfl rfl N0.out.map (by omega) ?_;intro w2 hm2 ht2;go_frame)
  have N2:=hZ (N0.out.mapped ht2 hm2 (fun x hx=>N0.out.below x (List.mem_of_mem_erase hx)));clear hm2 ht2 c3 N0 Ex1;have c2:=N2.out.len EN.out;have hcl:=fun c ty=>run_clear_words N2.out.toHAt HW.out (by omega) c ty
  have N2c:=hZ (N2.out.clear HW.out);go_upto_region 3 with (fail)
  refine Now.cut N2c.out ?_;intro w3 N3';have N3:=hZ N3';clear N3' c2 hcl N2c N2;obtain ⟨_,x16,_,h16,_⟩:=seek_succ HS.out;have g16:=N3.out.words.get (ra_some h16);have l16:=rd_lt (ra_some h16);rw [EL.out] at l16;have c2:=N3.out.len EL.out;have X16:=hZ h16;clear h16
  go_wp2_with fail
  clear c2 g16
  go_loopg [5,6,7] S.fuel (fun g b l s wr=>∃ m bf lk nx:Nat,wr=w3/\m<=g/\b = .int .i64 bf/\l = .int .i64 lk/\s = .int .i64 nx/\lk < n/\Hid (Hp.ra W lk=some nx)/\Hid (Hp.Hs.seek W a m bf lk=some (before,link)))
  case atStart=>exact ⟨S.fuel,0,16,x16,rfl,Nat.le_refl _,rfl,rfl,rfl,l16,X16,HS⟩
  case round=>
   obtain ⟨m,bf,lk,nx,rfl,hm,rfl,rfl,rfl,hll,RA,SK⟩:=hrel;obtain ⟨n',nx',hn',hnx',hsk⟩:=seek_succ SK.out;have e:=RA.out;rw [hnx'] at e
   cases e
   have HN:=hZ hn';clear hn' hnx'
   rcases hsk with ⟨h0,h1,h2⟩ | ⟨hne0,he⟩
   . have u0:((nx:Int) != 0)=true:=by simpa using h0
     have u1:decide (nx < a)=true:=decide_eq_true h1;obtain ⟨_,nx2,_,hnx2,_⟩:=seek_succ h2;have g2:=N3.out.words.get (ra_some hnx2);have l2:=rd_lt (ra_some hnx2);rw [EL.out] at l2;have c2:=N3.out.len EL.out;have X2:=hZ hnx2;have SK2:=hZ h2;clear h0 h1 h2 hnx2
     go_wp2_with fail
     go_roundg n'
     case measure=>have:=HN.out;omega
     case rel=>exact ⟨n',nx,nx+2,nx2,rfl,Nat.le_refl _,rfl,by go_num,rfl,l2,X2,SK2⟩
   obtain ⟨rfl,rfl⟩:=by simpa using he
   obtain rfl:next=(nx:Int):=by
    have h1:=HX.out;rw [ra_some RA.out] at h1;exact (Option.some.inj h1).symm
   have hq:=HQ0.out;clear he HQ0;go_upto_region 5 with (fail)
   go_cut [45] (fun s45 W=>s45 = .bool false/\W=wr)
   case first=>
    by_cases hz0:nx=0
    . have u0:((nx:Int) != 0)=false:=by simpa using hz0
      clear hq
      go_wp2_with fail
      go_meet
      exact ⟨rfl,rfl⟩
    have hge:a<=nx:=by
     apply Classical.byContradiction;intro hlt;exact hne0 ⟨hz0,by omega⟩
    have u0:((nx:Int) != 0)=true:=by simpa using hz0
    have u1:decide (nx < a)=false:=dF;clear hq
    go_wp2_with fail
    go_meet
    exact ⟨rfl,rfl⟩
   case rest=>
   obtain ⟨rfl,hw⟩:=hcut;obtain rfl:=hw.symm;have c2:=N3.out.len EL.out;have gl:=N3.out.words.get (ra_some RA.out);have hnx:=N3.out.words.bound (ra_some RA.out);have hnx1:=hnx.1;have hnx2:=hnx.2;have HQ:=hZ hq;have HNE:=hZ hne0;clear hnx hq hne0
   go_upto_if 67 with (fail)
   clear gl c2
   go_cut [4,8] (fun s4 s8 w5=>∃ (K X:Int) (V:List Int),s4 = .int .i64 K/\s8 = .int .i64 X/\Hid (Now w w5 d { S with words:=V,taken:=S.taken.erase a })/\Hid (V.length=n)/\Hid (freeTail V a before link K X=some W')/\(-4611686018427387904 < K/\K < 4611686018427387904)/\(-9223372036854775808<=X/\X<=9223372036854775807))
   case first=>
    rcases HQ.out with ⟨hne,after,v0,U1,U2,haf,hv0,hck,hU1,hU2,hft⟩ | ⟨hne,hft⟩
    . have e:a+k=nx:=by omega
      have u2:((nx:Int) == (a:Int)+(k:Int))=true:=by simpa using (by omega:(nx:Int)=(a:Int)+(k:Int))
      rw [e] at haf hv0 hU1 hU2;obtain ⟨hv0,hv1,hv2⟩:=rc_some hv0;obtain ⟨-,hw1,hw2⟩:=ck_some hck;have ha:=N3.out.words.bound haf;have ha1:=ha.1;have ha2:=ha.2;have g0:=N3.out.words.get hv0;have g4:=N3.out.words.get haf;have l3:=rd_lt hv0;rw [EL.out] at l3;have l4:=rd_lt haf;rw [EL.out] at l4;have EL5:=hZ (((HAt.wr_len hU2).1.trans (HAt.wr_len hU1).1).trans EL.out);have HT:=hZ hft;have HV0:=hZ hv0;have HAF:=hZ haf;have HU1:=hZ hU1;have HU2:=hZ hU2;clear hne e hft hv0 haf hU1 hU2 ha hck;have c2:=N3.out.len EL.out;go_upto_region 12 with (fail)
      clear u2 g0 g4 c2;have c2:=N3.out.len EL.out;have z1:=N3.out.lt;obtain ⟨i1,i2,i3,i4⟩:IntKind.i64.wrap (((nx:Nat):Int)+1)=((nx:Nat):Int)+1/\(0:Int)<=((nx:Nat):Int)+1/\((nx:Nat):Int)+1 < ((n:Nat):Int)/\(((nx:Nat):Int)+1).toNat=nx+1:=⟨IntWalk.i64_in _ (by omega),by omega,by omega,by omega⟩
      obtain ⟨j1,j2,j3,j4⟩:IntKind.i64.wrap (((nx:Nat):Int)+2)=((nx:Nat):Int)+2/\(0:Int)<=((nx:Nat):Int)+2/\((nx:Nat):Int)+2 < ((n:Nat):Int)/\(((nx:Nat):Int)+2).toNat=nx+2:=⟨IntWalk.i64_in _ (by omega),by omega,by omega,by omega⟩
      refine wp_region_any (by kernel_rfl) ?_;refine' tkA 10 rfl ?hy10_142 ?_
      case hy10_142=>(intro w;go_simp;try with_reducible rfl)
      refine layy ?_;refine' tkA 11 rfl ?hy11_143 ?_
      case hy11_143=>(intro w;go_simp;try with_reducible rfl)
      refine layy ?_;have pr11a:=fun u_ (h_:Ext wr u_)=>(h_.cell z1 2).trans c2
      refine wpAny_to_X (S:=fun W=>Ext wr W) (R:=Ext) 12 10 Ext.refl ?_ ?_ (by rfl)
      . exact Ext.drew exx
      refine' tkY 0 ?_;refine' tkY 1 ?_;refine' tkY 2 ?_;refine' tkY 3 ?_;refine' tkY 4 ?_;refine' tkY 5 ?_;refine' tkY 6 ?_;refine' tkY 7 ?_;refine' tkY 8 ?_;refine' tkY 9 ?_;refine wpAnyX_done (by kernel_rfl) ?_;intro wq _ Ewq;clear pr11a;simp only [List.drop_succ_cons,List.drop_zero];clear c2 z1 i1 i2 i3 i4 j1 j2 j3 j4;have N4:=hZ (N3.out.ext Ewq);have g1:=N4.out.words.get HV0.out;have g2:=N4.out.words.get HAF.out;have f1:=N4.out.words.froz (nx+1);have f2:=N4.out.words.froz (nx+2);have N5':=hZ ((N4.out.set HU1.out (by omega) (by omega)).set HU2.out (by omega) (by omega));go_upto_region 13 with (fail)
      refine Now.cut N5'.out ?_;clear N5' N4 g1 g2 f1 f2 Ewq;intro w5 N5';have N5:=hZ N5';clear N5'
      go_wp2_with fail
      go_meet
      exact ⟨_,_,_,rfl,rfl,N5,EL5,HT,⟨hw1,hw2⟩,ha1,ha2⟩
    have u2:((nx:Int) == (a:Int)+(k:Int))=false:=by
     simpa using (fun e=>hne (by rw [e];simp):¬ (nx:Int)=(a:Int)+(k:Int))
    have HT:=hZ hft;clear hne hft
    go_wp2_with fail
    go_meet
    exact ⟨_,_,_,rfl,rfl,N3,EL,HT,⟨by omega,by omega⟩,by omega,by omega⟩
   case rest=>
   obtain ⟨K,X,V,rfl,rfl,N5,EL5,HT,⟨hK1,hK2⟩,hX1,hX2⟩:=hcut;obtain ⟨w5,hw5⟩:∃ x,x=wc:=⟨_,rfl⟩
   subst hw5;clear HQ HNE hnx1 hnx2
   rcases freeTail_some HT.out with ⟨hb,v,hv,hc,V1,h1,h2⟩ | ⟨hb,V1,V2,h1,h2,h3⟩
   . have t0:((before:Int) != 0)=true:=by simpa using hb
     obtain ⟨hv,hv1,hv2⟩:=rc_some hv;have gv:=N5.out.words.get hv;have lv:=rd_lt hv;rw [EL5.out] at lv;have t1:((before:Int)+v == (a:Int))=true:=by simpa using hc
     have c2:=N5.out.len EL5.out;have fv:=N5.out.words.froz (before+1);have NY:=hZ (N5.out.set h1 (by omega) (by omega));have EL1:=hZ ((HAt.wr_len h1).1.trans EL5.out);have H2:=hZ h2;have l2:=(HAt.wr_len h2).2;rw [EL1.out] at l2;clear hb hv hc h1 h2;go_upto_region 16 with (fail)
     refine Now.cut NY.out ?_;clear NY gv fv c2;intro wy NY';have NY:=hZ NY';clear NY';have c2:=NY.out.len EL1.out;obtain ⟨y3,hy3⟩:=rd_get (HAt.wr_len H2.out).2;have g3:=NY.out.words.get hy3;have f3:=NY.out.words.froz (before+2);have Y3:=hZ hy3;clear hy3
     go_wp2_with fail
     go_returns;exact (NY.out.set H2.out hX1 hX2).done
   have c2:=N5.out.len EL5.out;go_upto_region 14 with (fail)
   go_cut [116] (fun s116 W=>s116 = .bool false/\W=w5)
   case first=>
    rcases hb with hb | ⟨hb,v,hv,hc⟩
    . have t0:((before:Int) != 0)=false:=by simpa using hb
      clear hb h1 h2 h3
      go_wp2_with fail
      go_meet
      exact ⟨rfl,rfl⟩
    have t0:((before:Int) != 0)=true:=by simpa using hb
    obtain ⟨hv,hv1,hv2⟩:=rc_some hv;have gv:=N5.out.words.get hv;have lv:=rd_lt hv;rw [EL5.out] at lv;have t1:((before:Int)+v == (a:Int))=false:=by simpa using hc
    clear hb hv hc h1 h2 h3
    go_wp2_with fail
    go_meet
    exact ⟨rfl,rfl⟩
   case rest=>
    obtain ⟨rfl,hw⟩:=hcut;obtain rfl:=hw.symm;clear hb;have e1:=HAt.wr_len h1;have e2:=HAt.wr_len h2;have e3:=HAt.wr_len h3;have l1:=e1.2;rw [EL5.out] at l1;have l2:=e2.2;rw [e1.1,EL5.out] at l2;obtain ⟨y1,hy1⟩:=rd_get (l:=V) (j:=a+1) (by rw [EL5.out];exact l1);obtain ⟨y2,hy2⟩:=rd_get (l:=V) (j:=a+2) (by rw [EL5.out];exact l2);have EL2:=hZ (e2.1.trans (e1.1.trans EL5.out));have Y1:=hZ hy1;have Y2:=hZ hy2;have H1:=hZ h1;have H2:=hZ h2;have H3:=hZ h3;clear e1 e2 e3 hy1 hy2 h1 h2 h3;go_upto_region 17 with (fail)
    (try clear c2)
    have c2:=N5.out.len EL5.out;have z1:=N5.out.lt;obtain ⟨i1,i2,i3,i4⟩:IntKind.i64.wrap (((a:Nat):Int)+1)=((a:Nat):Int)+1/\(0:Int)<=((a:Nat):Int)+1/\((a:Nat):Int)+1 < ((n:Nat):Int)/\(((a:Nat):Int)+1).toNat=a+1:=⟨IntWalk.i64_in _ (by omega),by omega,by omega,by omega⟩
    obtain ⟨j1,j2,j3,j4⟩:IntKind.i64.wrap (((a:Nat):Int)+2)=((a:Nat):Int)+2/\(0:Int)<=((a:Nat):Int)+2/\((a:Nat):Int)+2 < ((n:Nat):Int)/\(((a:Nat):Int)+2).toNat=a+2:=⟨IntWalk.i64_in _ (by omega),by omega,by omega,by omega⟩
    refine wp_region_any (by kernel_rfl) ?_;refine' tkA 10 rfl ?hy10_154 ?_
    case hy10_154=>(intro w;go_simp;try with_reducible rfl)
    refine layy ?_;refine' tkA 11 rfl ?hy11_155 ?_
    case hy11_155=>(intro w;go_simp;try with_reducible rfl)
    refine layy ?_;refine' tkA 13 rfl ?hy13_156 ?_
    case hy13_156=>(intro w;go_simp;try with_reducible rfl)
    refine layy ?_;have pr12a:=fun u_ (h_:Ext w5 u_)=>(h_.cell z1 2).trans c2
    refine wpAny_to_X (S:=fun W=>Ext w5 W) (R:=Ext) 14 11 Ext.refl ?_ ?_ (by rfl)
    . exact Ext.drew exx
    refine' tkY 0 ?_;refine' tkY 1 ?_;refine' tkY 2 ?_;refine' tkY 3 ?_;refine' tkY 4 ?_;refine' tkY 5 ?_;refine' tkY 6 ?_;refine' tkY 7 ?_;refine' tkY 8 ?_;refine' tkY 9 ?_;refine' tkY 12 ?_;refine wpAnyX_done (by kernel_rfl) ?_;intro wz _ Ewz;clear pr12a;simp only [List.drop_succ_cons,List.drop_zero];clear c2 z1 i1 i2 i3 i4 j1 j2 j3 j4;have NZ:=hZ (N5.out.ext Ewz);have g1:=NZ.out.words.get Y1.out;have g2:=NZ.out.words.get Y2.out;have f1:=NZ.out.words.froz (a+1);have f2:=NZ.out.words.froz (a+2);have NY:=hZ ((NZ.out.set H1.out (by omega) (by omega)).set H2.out hX1 hX2);go_upto_region 18 with (fail)
    refine Now.cut NY.out ?_;clear NY NZ g1 g2 f1 f2 Ewz;intro wy NY';have NY:=hZ NY';clear NY';have c2:=NY.out.len EL2.out;obtain ⟨y3,hy3⟩:=rd_get (HAt.wr_len H3.out).2;have g3:=NY.out.words.get hy3;have f3:=NY.out.words.froz link;have Y3:=hZ hy3;clear hy3
    go_wp2_with fail
    go_returns;exact (NY.out.set H3.out (by omega) (by omega)).done
namespace Hp
structure Dg where
 known:List (Nat × Int)
 ends:List (Int × Int)
 nodes:List (Int × List Int)
def refs (go:Nat->Dg->Option (Int × Dg)):List Nat->Dg->Option (List Int × Dg)
 | [],D=>some ([],D)
 | k :: r,D=>do
  let (x,D) <- go k D
  let (xs,D) <- refs go r D
  some (x :: xs,D)
namespace Hs
def from' (S:Hs):Nat->Nat->Dg->Option (Int × Dg)
 | 0,_,_=>none
 | n+1,a,D=>
  match getI a D.known with
  | some x=>some (x,D)
  | none=>
   let t:=ow S.words a
   if isEnd t then
    let x:Int:=-((D.ends.length:Int)+1)
    some (x,{ D with ends:=D.ends ++ [(t-20,ow S.words (a+4))],known:=putI a x D.known })
   else do
    let (xs,D) <- refs (S.from' n) ((fz (ow S.words) S.sizes a).map Int.toNat) D
    some ((D.nodes.length:Int),{ D with nodes:=D.nodes ++ [(t-1,xs)],known:=putI a D.nodes.length D.known })
def diagram (S:Hs) (a:Nat):Option (Int × Dg):=S.from' (S.order.length+2) a ⟨[],[],[]⟩
end Hs
structure Also (T:List Nat) (m:Nat->Nat) (D D':Dg):Prop where
 ends:D'.ends=D.ends
 nodes:D'.nodes=D.nodes
 up:KeysUp D.known
 up':KeysUp D'.known
 known:∀ a ∈ T,getI (m a) D'.known=getI a D.known
theorem Also.put {m:Nat->Nat} {D D':Dg} (h:Also T m D D') (hi:∀ a ∈ T,∀ b ∈ T,m a=m b->a=b) (ha:a ∈ T) (x:Int) {E:List (Int × Int)} {N:List (Int × List Int)} :
    Also T m ⟨putI a x D.known,E,N⟩ ⟨putI (m a) x D'.known,E,N⟩:=by
  refine ⟨rfl,rfl,keysUp_put h.up,keysUp_put h.up',fun b hb=>?_⟩;show getI (m b) (putI (m a) x D'.known)=getI b (putI a x D.known);rw [getI_put h.up',getI_put h.up,h.known b hb]
  by_cases e:b=a
  . subst e;simp
  rw [if_neg e,if_neg (fun e'=>e (hi b hb a ha e'))]
structure DgOk (S:Hs) (D:Dg):Prop where
 up:KeysUp D.known
 keys:∀ p ∈ D.known,p.1 ∈ S.taken
 many:D.ends.length+D.nodes.length=D.known.length
 refs:∀ p ∈ D.known,-(D.ends.length:Int)<=p.2/\p.2 < D.nodes.length
 kids:∀ q ∈ D.nodes,∀ x ∈ q.2,-(D.ends.length:Int)<=x/\x < D.nodes.length
def DgLe (D D1:Dg):Prop:=D.ends <+: D1.ends/\D.nodes <+: D1.nodes
theorem DgLe.refl (D:Dg):DgLe D D:=⟨List.prefix_refl _,List.prefix_refl _⟩
theorem DgLe.trans {D D1 D2:Dg} (h:DgLe D D1) (k:DgLe D1 D2):DgLe D D2:=⟨h.1.trans k.1,h.2.trans k.2⟩
theorem DgLe.le {D D1:Dg} (h:DgLe D D1):D.ends.length<=D1.ends.length/\D.nodes.length<=D1.nodes.length:=⟨h.1.length_le,h.2.length_le⟩
theorem putI_len {k:Nat} {x:Int}:∀ {M:List (Nat × Int)},KeysUp M->getI k M=none->(putI k x M).length=M.length+1
 | [],_,_=>rfl
 | (j,y) :: r,hu,h=>by
  obtain ⟨h1,h2⟩:=List.pairwise_cons.1 hu;unfold getI at h
  by_cases e:j=k
  . rw [if_pos e] at h
    cases h
  rw [if_neg e] at h;unfold putI
  split
  . simp
  split
  . rename_i e';exact absurd e'.symm e
  have:=putI_len h2 h (x:=x);simp [this]
theorem mem_putI {k:Nat} {x:Int}:∀ {M:List (Nat × Int)} {p:Nat × Int},p ∈ putI k x M->p=(k,x) \/ p ∈ M
 | [],p,h=>by
  left
  simpa [putI] using h
 | (j,y) :: r,p,h=>by
  unfold putI at h
  split at h
  . rcases List.mem_cons.1 h with h | h
    . exact .inl h
    exact .inr h
  split at h
  . rcases List.mem_cons.1 h with h | h
    . exact .inl h
    exact .inr (by simp [h])
  rcases List.mem_cons.1 h with h | h
  . exact .inr (by simp [h])
  rcases mem_putI h with h | h
  . exact .inl h
  exact .inr (by simp [h])
theorem getI_in {k:Nat} {x:Int}:∀ {M:List (Nat × Int)},getI k M=some x->(k,x) ∈ M
 | [],h=>by cases h
 | (j,y) :: r,h=>by
  unfold getI at h
  split at h
  . rename_i e;subst e
    cases h
    simp
  simp [getI_in h]
theorem DgOk.end_ {D:Dg} (h:DgOk S D) (ha:a ∈ S.taken) (hk:getI a D.known=none) (v:Int × Int) :
    DgOk S ⟨putI a (-((D.ends.length:Int)+1)) D.known,D.ends ++ [v],D.nodes⟩:=by
  refine ⟨keysUp_put h.up,fun p hp=>?_, ?_,fun p hp=>?_,fun q hq x hx=>?_⟩
  . rcases mem_putI hp with rfl | hp
    . exact ha
    exact h.keys p hp
  . rw [putI_len h.up hk,<- h.many];simp;omega
  . simp only [List.length_append,List.length_cons,List.length_nil]
    rcases mem_putI hp with rfl | hp
    . simp only;omega
    have:=h.refs p hp;omega
  have:=h.kids q hq x hx;simp only [List.length_append,List.length_cons,List.length_nil];omega
theorem DgOk.node_ {D:Dg} (h:DgOk S D) (ha:a ∈ S.taken) (hk:getI a D.known=none) (t:Int) (hx:∀ x ∈ xs,-(D.ends.length:Int)<=x/\x < D.nodes.length) :
    DgOk S ⟨putI a D.nodes.length D.known,D.ends,D.nodes ++ [(t,xs)]⟩:=by
  refine ⟨keysUp_put h.up,fun p hp=>?_, ?_,fun p hp=>?_,fun q hq x hx'=>?_⟩
  . rcases mem_putI hp with rfl | hp
    . exact ha
    exact h.keys p hp
  . rw [putI_len h.up hk,<- h.many];simp;omega
  . simp only [List.length_append,List.length_cons,List.length_nil]
    rcases mem_putI hp with rfl | hp
    . simp only;omega
    have:=h.refs p hp;omega
  simp only [List.length_append,List.length_cons,List.length_nil]
  rcases List.mem_append.1 hq with hq | hq
  . have:=h.kids q hq x hx';omega
  simp only [List.mem_singleton] at hq;subst hq;have:=hx x hx';omega
theorem known_few {D:Dg} (h:DgOk S D) (hb:∀ a ∈ S.taken,a < n):D.known.length<=n:=by
 have h1:(D.known.map Prod.fst).Pairwise (· < ·):=by
  rw [List.pairwise_map];exact h.up
 have:=sorted_len h1 (n:=n) fun x hx=>by
  obtain ⟨p,hp,rfl⟩:=List.mem_map.1 hx;exact hb _ (h.keys p hp)
 simpa using this
def rk (S:Hs) (a:Nat):Int:=rank S.order (ow S.words a)
structure FromTo (S:Hs) (a:Nat) (D:Dg) (x:Int) (D1:Dg):Prop where
 ok:DgOk S D1
 le:DgLe D D1
 lo : -(D1.ends.length:Int)<=x
 hi:x < D1.nodes.length
 old:∀ b,(getI b D1.known).isSome=true->(getI b D.known).isSome=true \/ rk S a<=rk S b
theorem refs_total {S:Hs} {f:Nat->Dg->Option (Int × Dg)} {r:Int}:∀ (l:List Nat) (D:Dg),(∀ k ∈ l,k ∈ S.taken/\r < rk S k)->(∀ k ∈ l,∀ D,DgOk S D -> ∃ x D1,f k D=some (x,D1)/\FromTo S k D x D1)->DgOk S D ->
    ∃ xs D1,refs f l D=some (xs,D1)/\xs.length=l.length/\DgOk S D1/\DgLe D D1/\(∀ x ∈ xs,-(D1.ends.length:Int)<=x/\x < D1.nodes.length) /\ ∀ b,(getI b D1.known).isSome=true->(getI b D.known).isSome=true \/ r < rk S b
  | [],D,_,_,h=>⟨[],D,rfl,rfl,h,DgLe.refl D,by simp,fun b hb=>.inl hb⟩
  | k :: l,D,hl,hf,h=>by
   obtain ⟨x,D1,e1,h1⟩:=hf k (by simp) D h;obtain ⟨xs,D2,e2,q0,q1,q2,q3,q4⟩:=refs_total l D1 (fun k hk=>hl k (by simp [hk])) (fun k hk=>hf k (by simp [hk])) h1.ok;have hle:=q2.le;refine ⟨x :: xs,D2,by simp [refs,e1,e2],by simp [q0],q1,h1.le.trans q2,fun y hy=>?_,fun b hb=>?_⟩
   . rcases List.mem_cons.1 hy with rfl | hy
     . have:=h1.lo;have:=h1.hi;omega
     exact q3 y hy
   rcases q4 b hb with hb | hb
   . rcases h1.old b hb with hb | hb
     . exact .inl hb
     have:=(hl k (by simp)).2;exact .inr (by omega)
   exact .inr hb
theorem index_lo (l:List Int) (x:Int) : -1<=index l x:=by
 unfold index
 split <;> omega
theorem rank_lo (o:List Int) (t:Int) : -1<=rank o t:=by
 unfold rank
 split
 . omega
 exact index_lo _ _
theorem rank_hi {ch:Nat->List Nat} (_:Wf S B L ch) (_:a ∈ S.taken):rk S a<=S.order.length:=by
 unfold rk rank
 split
 . omega
 unfold index
 split
 . rename_i i hi;have:=(List.findIdx?_eq_some_iff_getElem.1 hi).1;omega
 omega
theorem isSome_putI (hM:KeysUp M) (h:(getI b (putI a x M)).isSome=true):b=a \/ (getI b M).isSome=true:=by
 rw [getI_put hM] at h
 by_cases e:b=a
 . exact .inl e
 rw [if_neg e] at h
 exact .inr h
theorem Wf.kid_in {ch:Nat->List Nat} (h:Wf S B L ch) (ha:a ∈ S.taken) (he:isEnd (ow S.words a)=false):∀ k ∈ (fz (ow S.words) S.sizes a).map Int.toNat,k ∈ S.taken/\rk S a < rk S k:=by
 intro k hk
 obtain ⟨x,hx,rfl⟩:=List.mem_map.1 hk
 obtain ⟨b,hb,rfl,hr⟩:=h.cells.kids a ha x (by simpa [kz,he] using hx)
 exact ⟨by simpa using hb,by simpa [rk] using hr⟩
theorem from_total {S:Hs} {B:Nat} {L:List Tl} {ch:Nat->List Nat} (h:Wf S B L ch):∀ (n:Nat) (a:Nat),a ∈ S.taken->(S.order.length:Int)-rk S a < n -> ∀ D,DgOk S D -> ∃ x D1,S.from' n a D=some (x,D1)/\FromTo S a D x D1
 | 0,a,ha,hn,D,hD=>by
  exfalso;have:rk S a<=S.order.length:=rank_hi h ha;omega
 | n+1,a,ha,hn,D,hD=>by
  unfold Hs.from'
  cases hk:getI a D.known with
  | some y=>
   have:=hD.refs _ (getI_in hk);exact ⟨y,D,rfl,hD,DgLe.refl D,this.1,this.2,fun b hb=>.inl hb⟩
  | none=>
   simp only
   cases he:isEnd (ow S.words a) with
   | true=>
    simp only [if_true];refine ⟨_,_,rfl,hD.end_ ha hk _,⟨List.prefix_append _ _,List.prefix_refl _⟩,by simp,by simp;omega,fun b hb=>?_⟩
    rcases isSome_putI hD.up hb with rfl | hb
    . exact .inr (Int.le_refl _)
    exact .inl hb
   | false=>
    simp only [Bool.false_eq_true,if_false];have hkid:=h.kid_in ha he;obtain ⟨xs,D1,e1,q0,q1,q2,q3,q4⟩:=refs_total (S:=S) (f:=S.from' n) (r:=rk S a) _ D hkid (fun k hk D hD=>from_total h n k (hkid k hk).1 (by have:=(hkid k hk).2;omega) D hD) hD;have hn1:getI a D1.known=none:=by
     cases hq:getI a D1.known with
     | none=>rfl
     | some y=>
      rcases q4 a (by rw [hq];rfl) with h1 | h1
      . rw [hk] at h1
        cases h1
      omega
    simp only [Option.bind_eq_bind,e1,Option.bind_some];refine ⟨_,_,rfl,q1.node_ ha hn1 _ q3,q2.trans ⟨List.prefix_refl _,List.prefix_append _ _⟩,by simp only;omega,by simp only [List.length_append,List.length_cons,List.length_nil];omega,fun b hb=>?_⟩
    rcases isSome_putI q1.up hb with rfl | hb
    . exact .inr (Int.le_refl _)
    rcases q4 b hb with hb | hb
    . exact .inl hb
    exact .inr (by omega)
theorem diagram_total {ch:Nat->List Nat} (h:Wf S B L ch) (ha:a ∈ S.taken):∃ x D,S.diagram a=some (x,D)/\FromTo S a ⟨[],[],[]⟩ x D:=
 from_total h _ a ha (by have:=rank_lo S.order (ow S.words a);unfold rk;omega) ⟨[],[],[]⟩ ⟨List.Pairwise.nil,by simp,rfl,by simp,by simp⟩
end Hp
namespace Nd
open Hp
structure Dia where
 sizes:List Int
 order:List Int
 ends:List (Int × Int)
 nodes:List (Int × List Int)
 root:Int
namespace Dia
def nodeAt (d:Dia) (i:Nat):Int × List Int:=d.nodes[i]?.getD (0,[])
def endAt (d:Dia) (i:Nat):Int × Int:=d.ends[i]?.getD (0,0)
def srch (d:Dia):Nat->Int->List Int × List Int->List Int × List Int
 | 0,_,t=>t
 | n+1,r,t=>
  if r < 0 then (if -1-r ∈ t.2 then t else (t.1,t.2 ++ [-1-r]))
  else if r ∈ t.1 then t
  else
   let t:=(d.nodeAt r.toNat).2.foldl (fun t k=>d.srch n k t) t
   (t.1 ++ [r],t.2)
end Dia
structure Cl where
 known:List (Nat × Int)
 ends:List (Int × Int)
 nodes:List (Int × List Int)
def mEnd (v:Int × Int) (s:Cl):Int × Cl:=
 match s.ends.idxOf? v with
 | some i=>(-1-(i:Int),s)
 | none=>(-1-(s.ends.length:Int),{ s with ends:=s.ends ++ [v] })
def flat (l:List Int):Bool:=l.all fun k=>k == l.headD 0
def mNode (q:Int × List Int) (s:Cl):Int × Cl:=
 if flat q.2 then (q.2.headD 0,s) else
 match s.nodes.idxOf? q with
 | some i=>((i:Int),s)
 | none=>((s.nodes.length:Int),{ s with nodes:=s.nodes ++ [q] })
def mapS (f:Int->Cl->Int × Cl):List Int->Cl->List Int × Cl
 | [],s=>([],s)
 | k :: r,s=>
  let p:=f k s
  let q:=mapS f r p.2
  (p.1 :: q.1,q.2)
namespace Dia
def cfrom (d:Dia):Nat->Int->Cl->Int × Cl
 | 0,r,s=>(r,s)
 | n+1,r,s=>
  if r < 0 then mEnd (d.endAt (-1-r).toNat) s else
  match getI r.toNat s.known with
  | some x=>(x,s)
  | none=>
   let p:=mapS (d.cfrom n) (d.nodeAt r.toNat).2 s
   let q:=mNode ((d.nodeAt r.toNat).1,p.1) p.2
   (q.1,{ q.2 with known:=putI r.toNat q.1 q.2.known })
def Ref (d:Dia) (r:Int) (n:Nat):Prop:=r < n /\ -1-r < d.ends.length
def Low (d:Dia):Prop:=∀ i,i < d.nodes.length -> ∀ k ∈ (d.nodeAt i).2,d.Ref k i
end Dia
def upto (n:Nat):List Int:=(List.range n).map Int.ofNat
theorem mem_upto:x ∈ upto n ↔ 0<=x/\x < n:=by
 unfold upto
 simp only [List.mem_map,List.mem_range]
 constructor
 . rintro ⟨i,hi,rfl⟩;simp only [Int.ofNat_eq_natCast];omega
 intro h
 exact ⟨x.toNat,by omega,by simp only [Int.ofNat_eq_natCast];omega⟩
theorem upto_succ (n:Nat):upto (n+1)=upto n ++ [(n:Int)]:=by simp [upto,List.range_succ]
theorem upto_len (n:Nat):(upto n).length=n:=by simp [upto]
theorem upto_inj (h:upto a=upto b):a=b:=by simpa [upto_len] using congrArg List.length h
theorem upto_pre (h:l <+: upto a):l=upto l.length/\l.length<=a:=by
 have hl:l.length<=a:=by simpa [upto_len] using h.length_le
 refine ⟨?_,hl⟩
 have:=List.prefix_iff_eq_take.1 h
 rw [this]
 simp only [upto,<- List.map_take,List.take_range,List.length_map,List.length_range]
structure Par (d:Dia) (s:Cl) (t:List Int × List Int) (a b:Nat):Prop where
 a_le:a<=d.nodes.length
 b_le:b<=d.ends.length
 nodes:s.nodes=d.nodes.take a
 ends:s.ends=d.ends.take b
 known:∀ i,getI i s.known=if i < a then some (i:Int) else none
 up:KeysUp s.known
 t:t=(upto a,upto b)
def Fine (d:Dia) (s:Cl) (t:List Int × List Int):Prop:=(t.1 <+: upto d.nodes.length/\t.2 <+: upto d.ends.length) \/ (s.nodes <+: d.nodes/\s.ends <+: d.ends)
def ClLe (s s':Cl):Prop:=s.nodes <+: s'.nodes/\s.ends <+: s'.ends
theorem ClLe.refl (s:Cl):ClLe s s:=⟨List.prefix_refl _,List.prefix_refl _⟩
theorem ClLe.trans {a b c:Cl} (h:ClLe a b) (k:ClLe b c):ClLe a c:=⟨h.1.trans k.1,h.2.trans k.2⟩
def TLe (t t':List Int × List Int):Prop:=t.1 <+: t'.1/\t.2 <+: t'.2
theorem TLe.refl (s:List Int × List Int):TLe s s:=⟨List.prefix_refl _,List.prefix_refl _⟩
theorem TLe.trans {a b c:List Int × List Int} (h:TLe a b) (k:TLe b c):TLe a c:=⟨h.1.trans k.1,h.2.trans k.2⟩
theorem Fine.back {d:Dia} {s s':Cl} {t t':List Int × List Int} (h:Fine d s' t') (k:ClLe s s') (j:TLe t t'):Fine d s t:=by
 rcases h with h | h
 . exact .inl ⟨j.1.trans h.1,j.2.trans h.2⟩
 exact .inr ⟨k.1.trans h.1,k.2.trans h.2⟩
theorem mEnd_le (v:Int × Int) (s:Cl):ClLe s (mEnd v s).2:=by
 unfold mEnd
 split
 . exact ClLe.refl _
 exact ⟨List.prefix_refl _,List.prefix_append _ _⟩
theorem mNode_le (q:Int × List Int) (s:Cl):ClLe s (mNode q s).2:=by
 unfold mNode
 split
 . exact ClLe.refl _
 split
 . exact ClLe.refl _
 exact ⟨List.prefix_append _ _,List.prefix_refl _⟩
theorem mapS_le {f:Int->Cl->Int × Cl} (hf:∀ k s,ClLe s (f k s).2):∀ (l:List Int) (s:Cl),ClLe s (mapS f l s).2
 | [],s=>ClLe.refl s
 | k :: r,s=>(hf k s).trans (mapS_le hf r _)
theorem cfrom_le (d:Dia):∀ (n:Nat) (r:Int) (s:Cl),ClLe s (d.cfrom n r s).2
 | 0,_,s=>ClLe.refl s
 | n+1,r,s=>by
  unfold Dia.cfrom
  split
  . exact mEnd_le _ _
  split
  . exact ClLe.refl _
  exact (mapS_le (cfrom_le d n) _ _).trans (mNode_le _ _)
theorem fold_le {g:List Int × List Int->Int->List Int × List Int} (hg:∀ t k,TLe t (g t k)):∀ (l:List Int) (t:List Int × List Int),TLe t (l.foldl g t)
 | [],t=>TLe.refl t
 | k :: r,t=>(hg t k).trans (fold_le hg r _)
theorem srch_le (d:Dia):∀ (n:Nat) (r:Int) (t:List Int × List Int),TLe t (d.srch n r t)
 | 0,_,t=>TLe.refl t
 | n+1,r,t=>by
  unfold Dia.srch
  split
  . split
    . exact TLe.refl _
    exact ⟨List.prefix_refl _,List.prefix_append _ _⟩
  split
  . exact TLe.refl _
  have:=fold_le (fun t k=>srch_le d n k t) (d.nodeAt r.toNat).2 t;exact ⟨this.1.trans (List.prefix_append _ _),this.2⟩
theorem nodup_inj {α:Type} {l:List α} (hn:l.Nodup) {v:α} (hi:l[i]? = some v) (hj:l[j]? = some v):i=j:=by
 have hlt:i < l.length:=by
  rcases Nat.lt_or_ge i l.length with h | h
  . exact h
  rw [List.getElem?_eq_none h] at hi
  cases hi
 exact (List.getElem?_inj hlt hn).1 (hi.trans hj.symm)
theorem idxOf?_take {α:Type} [BEq α] [LawfulBEq α] {l:List α} (hn:l.Nodup) {b e:Nat} {v:α} (he:l[e]? = some v):(l.take b).idxOf? v=if e < b then some e else none:=by
 have key:∀ j (hj:j < (l.take b).length),(l.take b)[j]=v->j=e/\j < b:=by
  intro j hj e';have hj':j < b/\j < l.length:=by simp only [List.length_take] at hj;omega
  refine ⟨nodup_inj hn ?_ he,hj'.1⟩;rw [List.getElem?_eq_getElem hj'.2];simp only [List.getElem_take] at e';rw [e']
 split
 . rename_i h;have hlt:e < (l.take b).length:=by
    have:e < l.length:=by
     rcases Nat.lt_or_ge e l.length with h | h
     . exact h
     rw [List.getElem?_eq_none h] at he
     cases he
    simp only [List.length_take];omega
   have hv:(l.take b)[e]=v:=by
    have:(l.take b)[e]? = some v:=by rw [List.getElem?_take_of_lt h,he]
    rw [List.getElem?_eq_getElem hlt] at this;exact Option.some.inj this
   cases hx:(l.take b).idxOf? v with
   | none=>exact absurd (hv ▸ List.getElem_mem hlt) (List.idxOf?_eq_none_iff.1 hx)
   | some i=>
    obtain ⟨hi,he',_⟩:=List.idxOf?_eq_some_iff.1 hx;rw [(key i hi he').1]
 rename_i h
 rw [List.idxOf?_eq_none_iff]
 intro hm
 obtain ⟨j,hj,e'⟩:=List.getElem_of_mem hm
 have:=key j hj e'
 omega
theorem take_snoc {α:Type} {l:List α} {v:α} (h:l[b]? = some v):l.take b ++ [v]=l.take (b+1):=by
 rw [List.take_add_one,h];rfl
theorem pre_snoc {α:Type} {l:List α} (hn:l.Nodup) {e:Nat} {v:α} (hb:b<=l.length) (he:l[e]? = some v) (h:l.take b ++ [v] <+: l):b=e:=by
 obtain ⟨r,hr⟩:=h
 refine nodup_inj hn ?_ he
 rw [<- hr]
 have hl:(l.take b).length=b:=by simp only [List.length_take];omega
 rw [List.append_assoc,List.getElem?_append_right (by omega),hl]
 simp
structure Once (d:Dia):Prop where
 ends:d.ends.Nodup
 nodes:d.nodes.Nodup
 flat:∀ q ∈ d.nodes,flat q.2=false
def Step (d:Dia) (n:Nat):Prop:=∀ (r:Int) (s:Cl) (t:List Int × List Int) (a b:Nat),d.Ref r n->n<=d.nodes.length->Par d s t a b->Fine d (d.cfrom (n+1) r s).2 (d.srch (n+1) r t) ->
 ∃ a' b',(d.cfrom (n+1) r s).1=r/\Par d (d.cfrom (n+1) r s).2 (d.srch (n+1) r t) a' b'/\a'<=max a (r+1).toNat
theorem step_end {d:Dia} (O:Once d) (n:Nat) {r:Int} (hr:r < 0) {s:Cl} {t:List Int × List Int} (hR : -1-r < d.ends.length) (P:Par d s t a b) (hF:Fine d (d.cfrom (n+1) r s).2 (d.srch (n+1) r t)) :
    ∃ a' b',(d.cfrom (n+1) r s).1=r/\Par d (d.cfrom (n+1) r s).2 (d.srch (n+1) r t) a' b'/\a'<=max a (r+1).toNat:=by
  obtain ⟨e,rfl⟩:∃ e:Nat,r = -1-(e:Int):=⟨(-1-r).toNat,by omega⟩
  have he:e < d.ends.length:=by omega
  have hv:d.ends[e]? = some (d.endAt e):=by unfold Dia.endAt;rw [List.getElem?_eq_getElem he];rfl
  have h1:(-1-(-1-(e:Int))).toNat=e:=by omega
  have h2 : -1-(-1-(e:Int))=e:=by omega
  unfold Dia.cfrom Dia.srch at hF ⊢;simp only [if_pos hr,h1,h2,Int.toNat_natCast] at hF ⊢;have hi:=idxOf?_take O.ends (b:=b) hv;unfold mEnd at hF ⊢;rw [P.ends,hi,P.t] at hF ⊢
  by_cases hb:e < b
  . have hm:(e:Int) ∈ upto b:=mem_upto.2 ⟨by omega,by omega⟩;simp only [if_pos hb,if_pos hm] at hF ⊢;refine ⟨a,b,trivial, ?_,by omega⟩;rw [<- P.t];exact P
  have hm:¬ (e:Int) ∈ upto b:=fun h=>by have:=mem_upto.1 h;omega
  have hlen:(d.ends.take b).length=b:=by have:=P.b_le;simp only [List.length_take];omega
  simp only [if_neg hb,if_neg hm,hlen] at hF ⊢;have hbe:b=e:=by
   rcases hF with h | h
   . obtain ⟨_,h3⟩:=h;have h4:=(upto_pre h3).1;have h5:upto b ++ [(e:Int)]=upto b ++ [(b:Int)]:=by
      rw [<- upto_succ]
      simpa [upto_len] using h4
     have:=List.append_cancel_left h5;simp only [List.cons.injEq,and_true] at this;omega
   exact pre_snoc O.ends P.b_le hv h.2
  subst hbe;refine ⟨a,b+1,rfl,⟨P.a_le,he,P.nodes,take_snoc hv,P.known,P.up, ?_⟩,by omega⟩;rw [upto_succ]
theorem step_kids {d:Dia} {n m:Nat} (ih:Step d n) (hn:n<=d.nodes.length):∀ (l:List Int) (s:Cl) (t:List Int × List Int) (a b:Nat),(∀ k ∈ l,d.Ref k n/\(k+1).toNat<=m)->Par d s t a b->a<=m ->
    Fine d (mapS (d.cfrom (n+1)) l s).2 (l.foldl (fun t k=>d.srch (n+1) k t) t) ->
    ∃ a' b',(mapS (d.cfrom (n+1)) l s).1=l/\Par d (mapS (d.cfrom (n+1)) l s).2 (l.foldl (fun t k=>d.srch (n+1) k t) t) a' b'/\a'<=m
  | [],s,t,a,b,_,P,ha,_=>⟨a,b,rfl,P,ha⟩
  | k :: r,s,t,a,b,hl,P,ha,hF=>by
   have hk:=hl k (by simp);have hF1:Fine d (d.cfrom (n+1) k s).2 (d.srch (n+1) k t):=by
    refine hF.back ?_ ?_
    . exact mapS_le (cfrom_le d (n+1)) r _
    exact fold_le (fun t k=>srch_le d (n+1) k t) r _
   obtain ⟨a1,b1,e1,P1,h1⟩:=ih k s t a b hk.1 hn P hF1;obtain ⟨a2,b2,e2,P2,h2⟩:=step_kids ih hn r _ _ a1 b1 (fun k hk=>hl k (by simp [hk])) P1 (by have:=hk.2;omega) hF;exact ⟨a2,b2,by simp only [mapS,e1,e2],P2,h2⟩
theorem getI_next {K:List (Nat × Int)} (hu:KeysUp K) (h:∀ i,getI i K=if i < a then some (i:Int) else none):∀ i,getI i (putI a (a:Int) K)=if i < a+1 then some (i:Int) else none:=by
 intro i
 rw [getI_put hu,h i]
 by_cases e:i=a
 . subst e;simp
 rw [if_neg e]
 by_cases h2:i < a
 . rw [if_pos h2,if_pos (by omega)]
 rw [if_neg h2,if_neg (by omega)]
theorem step {d:Dia} (O:Once d) (hL:d.Low):∀ n,Step d n
 | n,r,s,t,a,b,hR,hn,P,hF=>by
  by_cases hr:r < 0
  . exact step_end O n hr hR.2 P hF
  obtain ⟨i,rfl⟩:∃ i:Nat,r=(i:Int):=⟨r.toNat,by omega⟩
  have hin:i < n:=by have:=hR.1;omega
  have hi:i < d.nodes.length:=by omega
  obtain ⟨n',rfl⟩:∃ n',n=n'+1:=⟨n-1,by omega⟩
  have ih:=step O hL n';have hv:d.nodes[i]? = some (d.nodeAt i):=by unfold Dia.nodeAt;rw [List.getElem?_eq_getElem hi];rfl
  rw [Dia.cfrom,Dia.srch] at hF ⊢;simp only [if_neg hr,Int.toNat_natCast] at hF ⊢;rw [P.known i] at hF ⊢
  by_cases ha:i < a
  . have hm:(i:Int) ∈ t.1:=by rw [P.t];exact mem_upto.2 ⟨by omega,by omega⟩
    simp only [if_pos ha,if_pos hm] at hF ⊢;exact ⟨a,b,trivial,P,by omega⟩
  have hm:¬ (i:Int) ∈ t.1:=fun h=>by rw [P.t] at h;have:=mem_upto.1 h;omega
  simp only [if_neg ha,if_neg hm] at hF ⊢;have hk:∀ k ∈ (d.nodeAt i).2,d.Ref k n'/\(k+1).toNat<=i:=by
   intro k hk;have:=hL i hi k hk;exact ⟨⟨by have:=this.1;omega,this.2⟩,by have:=this.1;omega⟩
  generalize ep:mapS (d.cfrom (n'+1)) (d.nodeAt i).2 s=p at hF ⊢;generalize eu:(d.nodeAt i).2.foldl (fun t k=>d.srch (n'+1) k t) t=u at hF ⊢;have hF1:Fine d p.2 u:=by
   rcases hF with h | h
   . exact .inl ⟨(List.prefix_append _ _).trans h.1,h.2⟩
   have:=mNode_le ((d.nodeAt i).1,p.1) p.2;exact .inr ⟨this.1.trans h.1,this.2.trans h.2⟩
  obtain ⟨a1,b1,e1,P1,h1⟩:=step_kids (m:=i) ih (by omega) (d.nodeAt i).2 s t a b hk P (by omega) (by rw [ep,eu];exact hF1);rw [ep] at e1 P1;rw [eu] at P1;have hq:((d.nodeAt i).1,p.1)=d.nodeAt i:=by rw [e1]
  rw [hq] at hF ⊢;have hfl:flat (d.nodeAt i).2=false:=O.flat _ (List.mem_of_getElem? hv);have hix:=idxOf?_take O.nodes (b:=a1) hv;rw [if_neg (by omega)] at hix;have hlen:(d.nodes.take a1).length=a1:=by have:=P1.a_le;simp only [List.length_take];omega
  unfold mNode at hF ⊢;simp only [hfl,Bool.false_eq_true,if_false,P1.nodes,hix,hlen] at hF ⊢;have hae:a1=i:=by
   rcases hF with h | h
   . have h3:=h.1;rw [P1.t] at h3;have h4:=(upto_pre h3).1;have h5:upto a1 ++ [(i:Int)]=upto a1 ++ [(a1:Int)]:=by
      rw [<- upto_succ]
      simpa [upto_len] using h4
     have:=List.append_cancel_left h5;simp only [List.cons.injEq,and_true] at this;omega
   exact pre_snoc O.nodes P1.a_le hv h.1
  subst hae;refine ⟨a1+1,b1,rfl,⟨hi,P1.b_le,take_snoc hv,P1.ends,getI_next P1.up P1.known,keysUp_put P1.up, ?_⟩,by omega⟩;rw [P1.t,upto_succ]
structure ClOk (s:Cl):Prop where
 ends:s.ends.Nodup
 nodes:s.nodes.Nodup
 flat:∀ q ∈ s.nodes,flat q.2=false
theorem nodup_snoc {α:Type} {l:List α} {v:α} (h:l.Nodup) (hv:v ∉ l):(l ++ [v]).Nodup:=by
 rw [List.nodup_append]
 refine ⟨h,by simp,fun a ha b hb e=>?_⟩
 simp only [List.mem_singleton] at hb
 exact hv (hb ▸ e ▸ ha)
theorem mEnd_ok {v:Int × Int} {s:Cl} (h:ClOk s):ClOk (mEnd v s).2:=by
 unfold mEnd
 split
 . exact h
 rename_i e
 exact ⟨nodup_snoc h.ends (List.idxOf?_eq_none_iff.1 e),h.nodes,h.flat⟩
theorem mNode_ok {q:Int × List Int} {s:Cl} (h:ClOk s):ClOk (mNode q s).2:=by
 unfold mNode
 split
 . exact h
 rename_i hf
 split
 . exact h
 rename_i e
 refine ⟨h.ends,nodup_snoc h.nodes (List.idxOf?_eq_none_iff.1 e),fun q' hq=>?_⟩
 simp only [List.mem_append,List.mem_singleton] at hq
 rcases hq with hq | rfl
 . exact h.flat _ hq
 simpa using hf
theorem mapS_ok {f:Int->Cl->Int × Cl} (hf:∀ k s,ClOk s->ClOk (f k s).2):∀ (l:List Int) (s:Cl),ClOk s->ClOk (mapS f l s).2
 | [],_,h=>h
 | k :: r,s,h=>mapS_ok hf r _ (hf k s h)
theorem cfrom_ok (d:Dia):∀ (n:Nat) (r:Int) (s:Cl),ClOk s->ClOk (d.cfrom n r s).2
 | 0,_,_,h=>h
 | n+1,r,s,h=>by
  unfold Dia.cfrom
  split
  . exact mEnd_ok h
  split
  . exact h
  have:=mNode_ok (q:=((d.nodeAt r.toNat).1,(mapS (d.cfrom n) (d.nodeAt r.toNat).2 s).1)) (mapS_ok (cfrom_ok d n) (d.nodeAt r.toNat).2 s h);exact ⟨this.ends,this.nodes,this.flat⟩
namespace Dia
def clean (d:Dia):Int × Cl:=d.cfrom (d.nodes.length+1) d.root ⟨[],[],[]⟩
structure Is (d:Dia):Prop extends Once d where
 search:d.srch (d.nodes.length+1) d.root ([],[])=(upto d.nodes.length,upto d.ends.length)
end Dia
theorem clean_iff {d:Dia} (hL:d.Low) (hr:d.Ref d.root d.nodes.length):(d.clean.1=d.root/\d.clean.2.ends=d.ends/\d.clean.2.nodes=d.nodes) ↔ d.Is:=by
 have P0:Par d ⟨[],[],[]⟩ ([],[]) 0 0:=⟨by omega,by omega,by simp,by simp,fun i=>by simp [getI],List.Pairwise.nil,rfl⟩
 constructor
 . rintro ⟨_,h2,h3⟩;have hok:=cfrom_ok d (d.nodes.length+1) d.root ⟨[],[],[]⟩ ⟨by simp,by simp,by simp⟩;have O:Once d:=⟨h2 ▸ hok.ends,h3 ▸ hok.nodes,h3 ▸ hok.flat⟩
   obtain ⟨a,b,_,P,_⟩:=step O hL d.nodes.length d.root _ _ 0 0 hr (Nat.le_refl _) P0 (.inr ⟨by show d.clean.2.nodes <+: _;rw [h3];exact List.prefix_refl _,by show d.clean.2.ends <+: _;rw [h2];exact List.prefix_refl _⟩);refine ⟨O, ?_⟩;have ha:a=d.nodes.length:=by
    have:=P.nodes;rw [show (d.cfrom (d.nodes.length+1) d.root ⟨[],[],[]⟩).2.nodes=d.nodes from h3] at this;have h4:=congrArg List.length this;have:=P.a_le;simp only [List.length_take] at h4;omega
   have hb:b=d.ends.length:=by
    have:=P.ends;rw [show (d.cfrom (d.nodes.length+1) d.root ⟨[],[],[]⟩).2.ends=d.ends from h2] at this;have h4:=congrArg List.length this;have:=P.b_le;simp only [List.length_take] at h4;omega
   rw [P.t,ha,hb]
 intro h
 obtain ⟨a,b,e,P,_⟩:=step h.toOnce hL d.nodes.length d.root _ _ 0 0 hr (Nat.le_refl _) P0 (.inl (by rw [h.search];exact ⟨List.prefix_refl _,List.prefix_refl _⟩))
 have h4:=P.t
 rw [h.search,Prod.mk.injEq] at h4
 have ha:=upto_inj h4.1
 have hb:=upto_inj h4.2
 refine ⟨e, ?_, ?_⟩
 . show (d.cfrom _ _ _).2.ends=_;rw [P.ends,<- hb,List.take_length]
 show (d.cfrom _ _ _).2.nodes=_
 rw [P.nodes,<- ha,List.take_length]
end Nd
namespace Nd
open Hp
def digs (z:List Int) (c:Int):List Int:=upto (z.getD c.toNat 0).toNat
def ofP (z:List Int) (V:List Int->Int × Int):List Int->List Int->Cl->Int × Cl
 | [],p,s=>mEnd (V p) s
 | c :: r,p,s=>
  let q:=mapS (fun g s=>ofP z V r (p.set c.toNat g) s) (digs z c) s
  mNode (c,q.1) q.2
theorem idx_pre {α:Type} [BEq α] [LawfulBEq α] {l l':List α} {v:α} {i:Nat} (h:l <+: l') (hi:l.idxOf? v=some i):l'.idxOf? v=some i:=by
 obtain ⟨r,rfl⟩:=h
 obtain ⟨h1,h2,h3⟩:=List.idxOf?_eq_some_iff.1 hi
 refine List.idxOf?_eq_some_iff.2 ⟨by simp;omega,by rw [List.getElem_append_left h1];exact h2,fun j hj=>?_⟩
 rw [List.getElem_append_left (by omega)]
 exact h3 j hj
theorem idx_snoc {α:Type} [BEq α] [LawfulBEq α] {l:List α} {v:α} (hi:l.idxOf? v=none):(l ++ [v]).idxOf? v=some l.length:=by
 have hn:=List.idxOf?_eq_none_iff.1 hi
 refine List.idxOf?_eq_some_iff.2 ⟨by simp,by simp,fun j hj e=>?_⟩
 rw [List.getElem_append_left hj] at e
 exact hn (e ▸ List.getElem_mem hj)
theorem mEnd_again {v:Int × Int} {s s':Cl} (h:ClLe (mEnd v s).2 s'):mEnd v s'=((mEnd v s).1,s'):=by
 cases hi:s.ends.idxOf? v with
 | some i=>
  simp only [mEnd,hi] at h ⊢;rw [idx_pre h.2 hi]
 | none=>
  simp only [mEnd,hi] at h ⊢;rw [idx_pre h.2 (idx_snoc hi)]
theorem mNode_again {q:Int × List Int} {s s':Cl} (h:ClLe (mNode q s).2 s'):mNode q s'=((mNode q s).1,s'):=by
 by_cases hf:flat q.2=true
 . simp only [mNode,hf,if_true]
 cases hi:s.nodes.idxOf? q with
 | some i=>
  simp only [mNode,hf,hi,Bool.false_eq_true,if_false] at h ⊢;rw [idx_pre h.1 hi]
 | none=>
  simp only [mNode,hf,hi,Bool.false_eq_true,if_false] at h ⊢;rw [idx_pre h.1 (idx_snoc hi)]
theorem mapS_again {f:Int->Cl->Int × Cl} (hle:∀ k s,ClLe s (f k s).2) (hf:∀ k s s',ClLe (f k s).2 s'->f k s'=((f k s).1,s')):∀ (l:List Int) (s s':Cl),ClLe (mapS f l s).2 s'->mapS f l s'=((mapS f l s).1,s')
 | [],s,s',_=>rfl
 | k :: r,s,s',h=>by
  have h1:ClLe (f k s).2 s':=(mapS_le hle r _).trans h;simp only [mapS,hf k s s' h1];rw [mapS_again hle hf r (f k s).2 s' h]
theorem ofP_le (z:List Int) (V:List Int->Int × Int):∀ (L p:List Int) (s:Cl),ClLe s (ofP z V L p s).2
 | [],_,_=>mEnd_le _ _
 | c :: r,p,s=>(mapS_le (fun g s=>ofP_le z V r (p.set c.toNat g) s) _ s).trans (mNode_le _ _)
theorem ofP_again (z:List Int) (V:List Int->Int × Int):∀ (L p:List Int) (s s':Cl),ClLe (ofP z V L p s).2 s'->ofP z V L p s'=((ofP z V L p s).1,s')
 | [],_,_,_,h=>mEnd_again h
 | c :: r,p,s,s',h=>by
  simp only [ofP] at h ⊢;rw [mapS_again (fun g s=>ofP_le z V r (p.set c.toNat g) s) (fun g s s'=>ofP_again z V r (p.set c.toNat g) s s') _ s s' ((mNode_le _ _).trans h)];exact mNode_again h
def er (s:Cl):List (Int × Int) × List (Int × List Int):=(s.ends,s.nodes)
theorem mEnd_er {v:Int × Int} {s t:Cl} (h:er s=er t):(mEnd v s).1=(mEnd v t).1/\er (mEnd v s).2=er (mEnd v t).2:=by
 simp only [er,Prod.mk.injEq] at h
 unfold mEnd
 rw [h.1]
 split <;> simp [er,h.1,h.2]
theorem mNode_er {q:Int × List Int} {s t:Cl} (h:er s=er t):(mNode q s).1=(mNode q t).1/\er (mNode q s).2=er (mNode q t).2:=by
 simp only [er,Prod.mk.injEq] at h
 unfold mNode
 rw [h.2]
 split
 . simp [er,h.1,h.2]
 split <;> simp [er,h.1,h.2]
theorem mapS_er {f:Int->Cl->Int × Cl} (hf:∀ k s t,er s=er t->(f k s).1=(f k t).1/\er (f k s).2=er (f k t).2):∀ (l:List Int) (s t:Cl),er s=er t->(mapS f l s).1=(mapS f l t).1/\er (mapS f l s).2=er (mapS f l t).2
 | [],_,_,h=>⟨rfl,h⟩
 | k :: r,s,t,h=>by
  have h1:=hf k s t h;have h2:=mapS_er hf r _ _ h1.2;simp only [mapS];exact ⟨by rw [h1.1,h2.1],h2.2⟩
theorem ofP_er (z:List Int) (V:List Int->Int × Int):∀ (L p:List Int) (s t:Cl),er s=er t->(ofP z V L p s).1=(ofP z V L p t).1/\er (ofP z V L p s).2=er (ofP z V L p t).2
 | [],_,_,_,h=>mEnd_er h
 | c :: r,p,s,t,h=>by
  have h1:=mapS_er (fun g s t h=>ofP_er z V r (p.set c.toNat g) s t h) (digs z c) s t h;simp only [ofP];rw [h1.1];exact mNode_er h1.2
theorem mapS_same {f:Int->Cl->Int × Cl} {x:Int} {s:Cl}:∀ (l:List Int),(∀ g ∈ l,f g s=(x,s))->mapS f l s=(l.map fun _=>x,s)
 | [],_=>rfl
 | k :: r,h=>by
  simp only [mapS,h k (by simp)];rw [mapS_same r fun g hg=>h g (by simp [hg])];rfl
theorem flat_same (l:List Int):flat (l.map fun _=>x)=true:=by
 cases l with
 | nil=>rfl
 | cons a r=>simp [flat]
theorem of_skip {V:List Int->Int × Int} {c:Int} {r p:List Int} {s s1:Cl} (hd:digs z c ≠ []) (h:∀ g ∈ digs z c,ofP z V r (p.set c.toNat g) s=(x,s1)):ofP z V (c :: r) p s=(x,s1):=by
 simp only [ofP]
 cases e:digs z c with
 | nil=>exact absurd e hd
 | cons g0 gs=>
  rw [e] at h;have h0:=h g0 (by simp);have hs:mapS (fun g s=>ofP z V r (p.set c.toNat g) s) gs s1=(gs.map fun _=>x,s1):=mapS_same gs fun g hg=>by
   have h1:=h g (by simp [hg]);have:=ofP_again z V r (p.set c.toNat g) s s1 (by rw [h1];exact ClLe.refl _);rw [h1] at this;exact this
  simp only [mapS,h0,hs];have hf:flat (x :: gs.map fun _=>x)=true:=flat_same (g0 :: gs);simp [mNode,hf]
def Under (z:List Int):List Int->List Int->List Int->Prop
 | [],p,p'=>p'=p
 | c :: r,p,p'=>∃ g ∈ digs z c,Under z r (p.set c.toNat g) p'
theorem under_get {z:List Int} {k:Nat}:∀ {L p p':List Int},Under z L p p'->(∀ c ∈ L,c.toNat ≠ k)->p'.getD k 0=p.getD k 0
 | [],_,_,h,_=>by rw [h]
 | c :: r,p,p',⟨g,_,h⟩,hc=>by
  rw [under_get h fun c hm=>hc c (by simp [hm])];simp only [List.getD_eq_getElem?_getD];rw [List.getElem?_set_ne (hc c (by simp))]
structure Ord (z L:List Int) (n:Nat):Prop where
 nodup:L.Nodup
 pos:∀ c ∈ L,0<=c/\0 < z.getD c.toNat 0/\c.toNat < n
theorem Ord.tail {L:List Int} {c:Int} (h:Ord z (c :: L) n):Ord z L n:=⟨(List.nodup_cons.1 h.nodup).2,fun c hc=>h.pos c (by simp [hc])⟩
theorem Ord.digs_ne {L:List Int} {c:Int} (h:Ord z (c :: L) n):digs z c ≠ []:=fun e=>by
 have h1:=(h.pos c (by simp)).2.1
 have h2:=congrArg List.length e
 unfold digs at h2
 rw [upto_len,List.length_nil] at h2
 omega
namespace Dia
def Fit (d:Dia) (z:List Int):List Int->Int->Prop
 | [],r=>r < 0
 | c :: L,r=>(¬ (0<=r/\(d.nodeAt r.toNat).1=c)/\d.Fit z L r) \/ (0<=r/\(d.nodeAt r.toNat).1=c/\((d.nodeAt r.toNat).2.length:Int)=z.getD c.toNat 0 /\ ∀ k ∈ (d.nodeAt r.toNat).2,d.Fit z L k)
def evL (d:Dia):List Int->Int->List Int->Int × Int
 | [],r,_=>d.endAt (-1-r).toNat
 | c :: L,r,p=>if 0<=r/\(d.nodeAt r.toNat).1=c then d.evL L ((d.nodeAt r.toNat).2.getD (p.getD c.toNat 0).toNat 0) p else d.evL L r p
end Dia
structure Kn (d:Dia) (z:List Int) (s:Cl):Prop where
 up:KeysUp s.known
 made:∀ i x,getI i s.known=some x -> ∀ (L p:List Int) (V:List Int->Int × Int),Ord z L p.length->d.Fit z L (i:Int)->(∀ p',Under z L p p'->V p'=d.evL L (i:Int) p')->ofP z V L p s=(x,s)
theorem Kn.grow {d:Dia} {s s':Cl} (h:Kn d z s) (k:ClLe s s') (e:s'.known=s.known):Kn d z s' where
 up:=e ▸ h.up
 made:=fun i x hi L p V hO hF hV=>by
  have h1:=h.made i x (e ▸ hi) L p V hO hF hV;have h2:=ofP_again z V L p s s' (by rw [h1];exact k);rw [h1] at h2;exact h2
def Alike (d:Dia) (z:List Int) (r:Int) (s:Cl) (q:Int × Cl):Prop:=
 Kn d z q.2 /\ ∀ (L p:List Int) (V:List Int->Int × Int),Ord z L p.length->d.Fit z L r->(∀ p',Under z L p p'->V p'=d.evL L r p')->(ofP z V L p s).1=q.1/\er (ofP z V L p s).2=er q.2
theorem mEnd_known (v:Int × Int) (s:Cl):(mEnd v s).2.known=s.known:=by
 unfold mEnd
 split <;> rfl
theorem mNode_known (q:Int × List Int) (s:Cl):(mNode q s).2.known=s.known:=by
 unfold mNode
 split
 . rfl
 split <;> rfl
theorem ofP_known (z:List Int) (V:List Int->Int × Int):∀ (L p:List Int) (s:Cl),(ofP z V L p s).2.known=s.known
 | [],_,_=>mEnd_known _ _
 | c :: r,p,s=>by
  have key:∀ (l:List Int) (s:Cl),(mapS (fun g s=>ofP z V r (p.set c.toNat g) s) l s).2.known=s.known:=by
   intro l
   induction l with
   | nil=>intro s;rfl
   | cons k l ih=>intro s;simp only [mapS];rw [ih,ofP_known z V r _ s]
  simp only [ofP];rw [mNode_known,key]
theorem er_known {s t:Cl} (h:er s=er t) (k:s.known=t.known):s=t:=by
 cases s
 cases t
 simp only [er,Prod.mk.injEq] at h
 simp only [Cl.mk.injEq]
 exact ⟨k,h.1,h.2⟩
theorem alike_end {d:Dia} {r:Int} (hr:r < 0) {s:Cl} (hK:Kn d z s):Alike d z r s (mEnd (d.endAt (-1-r).toNat) s):=by
 refine ⟨hK.grow (mEnd_le _ _) (mEnd_known _ _), ?_⟩
 have key:∀ (L p:List Int) (V:List Int->Int × Int),Ord z L p.length->d.Fit z L r->(∀ p',Under z L p p'->V p'=d.evL L r p')->ofP z V L p s=mEnd (d.endAt (-1-r).toNat) s:=by
  intro L
  induction L with
  | nil=>
   intro p V _ _ hV;simp only [ofP,hV p rfl,Dia.evL]
  | cons c L ih=>
   intro p V hO hF hV;have hn:¬ (0<=r/\(d.nodeAt r.toNat).1=c):=fun h=>by omega
   have hF':d.Fit z L r:=by
    rcases hF with h | h
    . exact h.2
    omega
   refine of_skip hO.digs_ne fun g hg=>?_
   exact ih (p.set c.toNat g) V (by rw [List.length_set];exact hO.tail) hF' fun p' hp=>by rw [hV p' ⟨g,hg,hp⟩,Dia.evL,if_neg hn]
 intro L p V hO hF hV
 rw [key L p V hO hF hV]
 exact ⟨rfl,rfl⟩
theorem alike_kids {d:Dia} {z:List Int} {n:Nat} (ih:∀ (r:Int) (s:Cl),d.Ref r n->Kn d z s->Alike d z r s (d.cfrom (n+1) r s)) :
    ∀ (ks:List Int) (s:Cl),(∀ k ∈ ks,d.Ref k n)->Kn d z s->Kn d z (mapS (d.cfrom (n+1)) ks s).2 /\
     ∀ (L:List Int) (P:Int->List Int) (V:List Int->Int × Int) (gs:List Int) (t:Cl),gs.length=ks.length->(∀ g,Ord z L (P g).length)->(∀ k ∈ ks,d.Fit z L k)->(∀ (j:Nat) (g k:Int),gs[j]? = some g->ks[j]? = some k -> ∀ p',Under z L (P g) p'->V p'=d.evL L k p')->er t=er s ->
      (mapS (fun g s=>ofP z V L (P g) s) gs t).1=(mapS (d.cfrom (n+1)) ks s).1/\er (mapS (fun g s=>ofP z V L (P g) s) gs t).2=er (mapS (d.cfrom (n+1)) ks s).2
  | [],s,_,hK=>⟨hK,fun L P V gs t hl _ _ _ he=>by
      cases gs with
      | nil=>exact ⟨rfl,he⟩
      | cons g gs=>simp at hl⟩
  | k :: ks,s,hR,hK=>by
   obtain ⟨K1,A1⟩:=ih k s (hR k (by simp)) hK;obtain ⟨K2,A2⟩:=alike_kids ih ks (d.cfrom (n+1) k s).2 (fun k hk=>hR k (by simp [hk])) K1;refine ⟨K2,fun L P V gs t hl hO hF hV he=>?_⟩
   cases gs with
   | nil=>simp at hl
   | cons g gs=>
    have h1:=A1 L (P g) V (hO g) (hF k (by simp)) (hV 0 g k rfl rfl);have h2:=ofP_er z V L (P g) t s he;have h3:=A2 L P V gs (ofP z V L (P g) t).2 (by simpa using hl) hO (fun k hk=>hF k (by simp [hk])) (fun j g k hg hk=>hV (j+1) g k (by simpa using hg) (by simpa using hk)) (h2.2.trans h1.2);simp only [mapS];exact ⟨by rw [h3.1,h2.1,h1.1],h3.2⟩
theorem of_cfrom {d:Dia} {z:List Int} (hL:d.Low):∀ (n:Nat) (r:Int) (s:Cl),n<=d.nodes.length->d.Ref r n->Kn d z s->Alike d z r s (d.cfrom (n+1) r s)
 | n,r,s,hn,hR,hK=>by
  by_cases hr:r < 0
  . rw [Dia.cfrom,if_pos hr];exact alike_end hr hK
  obtain ⟨i,rfl⟩:∃ i:Nat,r=(i:Int):=⟨r.toNat,by omega⟩
  have hin:i < n:=by have:=hR.1;omega
  rw [Dia.cfrom,if_neg hr,Int.toNat_natCast]
  cases hk:getI i s.known with
  | some x=>
   refine ⟨hK,fun L p V hO hF hV=>?_⟩;rw [hK.made i x hk L p V hO hF hV];exact ⟨rfl,rfl⟩
  | none=>
   obtain ⟨m,rfl⟩:∃ m,n=m+1:=⟨n-1,by omega⟩
   have hkids:∀ k ∈ (d.nodeAt i).2,d.Ref k m:=fun k hk=>by
    have:=hL i (by omega) k hk;exact ⟨by have:=this.1;omega,this.2⟩
   obtain ⟨K1,A1⟩:=alike_kids (fun r s hR hK=>of_cfrom hL m r s (by omega) hR hK) (d.nodeAt i).2 s hkids hK;generalize hq:mapS (d.cfrom (m+1)) (d.nodeAt i).2 s=q at K1 A1 ⊢
   have main:∀ (L p:List Int) (V:List Int->Int × Int),Ord z L p.length->d.Fit z L (i:Int)->(∀ p',Under z L p p'->V p'=d.evL L (i:Int) p') ->
       (ofP z V L p s).1=(mNode ((d.nodeAt i).1,q.1) q.2).1/\er (ofP z V L p s).2=er (mNode ((d.nodeAt i).1,q.1) q.2).2:=by
     intro L
     induction L with
     | nil=>
      intro p V _ hF _;have:(i:Int) < 0:=hF;omega
     | cons c L ihL=>
      intro p V hO hF hV
      by_cases hc:0<=(i:Int)/\(d.nodeAt (i:Int).toNat).1=c
      . have hc2:(d.nodeAt i).1=c:=by simpa using hc.2
        rcases hF with h | ⟨_,_,hlen,hkF⟩
        . exact absurd hc h.1
        rw [Int.toNat_natCast] at hlen hkF;have hcn:∀ c' ∈ L,c'.toNat ≠ c.toNat:=fun c' hc' e=>by
         have h1:=(hO.pos c (by simp)).1;have h2:=(hO.pos c' (by simp [hc'])).1;have:c'=c:=by omega
         exact (List.nodup_cons.1 hO.nodup).1 (this ▸ hc')
        have h4:=A1 L (fun g=>p.set c.toNat g) V (digs z c) s (by unfold digs;rw [upto_len];omega) (fun g=>by rw [List.length_set];exact hO.tail) hkF (fun j g k hg hk p' hp=>by
         rw [hV p' ⟨g,List.mem_of_getElem? hg,hp⟩,Dia.evL,if_pos hc,Int.toNat_natCast];have hj:j < (d.nodeAt i).2.length:=by
          rcases Nat.lt_or_ge j (d.nodeAt i).2.length with h | h
          . exact h
          rw [List.getElem?_eq_none h] at hk
          cases hk
         have hgj:g=(j:Int):=by
          unfold digs upto at hg;rw [List.getElem?_map,List.getElem?_range (by omega)] at hg
          simpa using hg.symm
         have e1:p'.getD c.toNat 0=g:=by
          rw [under_get hp hcn];simp only [List.getD_eq_getElem?_getD];rw [List.getElem?_set_self (hO.pos c (by simp)).2.2];rfl
         rw [e1,hgj,Int.toNat_natCast];simp only [List.getD_eq_getElem?_getD,hk,Option.getD_some]) rfl
        simp only [ofP];rw [h4.1,hc2];exact mNode_er h4.2
      have hF':d.Fit z L (i:Int):=by
       rcases hF with h | h
       . exact h.2
       exact absurd ⟨h.1,h.2.1⟩ hc
      have hg:∀ g ∈ digs z c,ofP z V L (p.set c.toNat g) s=((mNode ((d.nodeAt i).1,q.1) q.2).1,{ (mNode ((d.nodeAt i).1,q.1) q.2).2 with known:=s.known }):=fun g hg=>by
       have h5:=ihL (p.set c.toNat g) V (by rw [List.length_set];exact hO.tail) hF' fun p' hp=>by rw [hV p' ⟨g,hg,hp⟩,Dia.evL,if_neg hc]
       refine Prod.ext h5.1 (er_known h5.2 ?_);rw [ofP_known]
      rw [of_skip hO.digs_ne hg];exact ⟨rfl,rfl⟩
   have hle:ClLe s q.2:=hq ▸ mapS_le (cfrom_le d (m+1)) _ _;have hle2:=mNode_le ((d.nodeAt i).1,q.1) q.2;have hkn:=mNode_known ((d.nodeAt i).1,q.1) q.2;refine ⟨⟨keysUp_put (hkn ▸ K1.up),fun j x hj L p V hO hF hV=>?_⟩,main⟩;rw [getI_put (hkn ▸ K1.up)] at hj
   by_cases e:j=i
   . subst e;simp only [if_true,Option.some.injEq] at hj;subst hj;obtain ⟨m1,m2⟩:=main L p V hO hF hV
     have:=ofP_again z V L p s { (mNode ((d.nodeAt j).1,q.1) q.2).2 with known:=putI j (mNode ((d.nodeAt j).1,q.1) q.2).1 (mNode ((d.nodeAt j).1,q.1) q.2).2.known } (by
      simp only [er,Prod.mk.injEq] at m2;exact ⟨by rw [m2.2];exact List.prefix_refl _,by rw [m2.1];exact List.prefix_refl _⟩)
     rw [m1] at this;exact this
   rw [if_neg e,hkn] at hj;have h1:=K1.made j x hj L p V hO hF hV;have h2:=ofP_again z V L p q.2 { (mNode ((d.nodeAt i).1,q.1) q.2).2 with known:=putI i (mNode ((d.nodeAt i).1,q.1) q.2).1 (mNode ((d.nodeAt i).1,q.1) q.2).2.known } (by rw [h1];exact ⟨hle2.1,hle2.2⟩);rw [h1] at h2;exact h2
theorem of_clean {d:Dia} {L p:List Int} {V:List Int->Int × Int} (hL:d.Low) (hr:d.Ref d.root d.nodes.length) (hO:Ord z L p.length) (hF:d.Fit z L d.root) (hV:∀ p',Under z L p p'->V p'=d.evL L d.root p') :
    (ofP z V L p ⟨[],[],[]⟩).1=d.clean.1/\(ofP z V L p ⟨[],[],[]⟩).2.ends=d.clean.2.ends/\(ofP z V L p ⟨[],[],[]⟩).2.nodes=d.clean.2.nodes:=by
  have hK:Kn d z ⟨[],[],[]⟩:=⟨List.Pairwise.nil,fun i x h=>by simp [getI] at h⟩
  have h:=(of_cfrom hL d.nodes.length d.root ⟨[],[],[]⟩ (Nat.le_refl _) hr hK).2 L p V hO hF hV;have h2:=h.2;simp only [er,Prod.mk.injEq] at h2;exact ⟨h.1,h2.1,h2.2⟩
end Nd
open Go
section
variable {P:Program} {ops:Array Oper} {Q:Exit->Act->World->Prop} {md:Region.Mode} {S:World->Prop}
inductive PlanS (P:Program) (ops:Array Oper) (Q:Exit->Act->World->Prop) (S:World->Prop):List Oper->List Bool->Act->World->Prop
 | done {a:Act} {w:World} (h:Q .normal a w):PlanS P ops Q S [] [] a w
 | take {o:Oper} {v:Value} {l:List Oper} {r:List Bool} {a:Act} {w:World} (hy:YieldsOn P ops S Eq o v a) (h:PlanS P ops Q S l r (a.put o.dst v) w):PlanS P ops Q S (o :: l) (false :: r) a w
 | put {o:Oper} {l:List Oper} {r:List Bool} {a:Act} {w:World} (w':World) (hw:Region.wanted o (yielded ops a.tmps)=true) (hrun:(execOp a.eval o).run P w = .ok .skip w') (hS:S w') (h:PlanS P ops Q S l r (a.put o.dst undef) w'):PlanS P ops Q S (o :: l) (true :: r) a w
theorem PlanS.anyR (hs:Region.noSelect ops=true) (hQ:∀ c a d v w,Q (.panic c) (Act.put a d v) w->Q (.panic c) a w) {l:List Oper} {pl:List Bool} {a:Act} (h:PlanS P ops Q S l pl a w) :
    ∀ {k:Nat} {listed:Array Bool},(∀ j:Nat,l[j]? = ops[k+j]?)->Upto ops k listed->planL md ops l pl k=true->wpAnyR P md ops Q S Eq l.length listed a w:=by
  induction h with
  | done h=>
   intro k listed hl hu _;refine wpAnyR_done ?_ (fun w' e _=>e ▸ h) _;refine List.eq_nil_iff_forall_not_mem.2 fun j hj=>?_
   obtain ⟨h1,o,h2,_⟩:=mem_ready.1 hj;have hjs:=(Array.getElem?_eq_some_iff.1 h2).1;rw [hu.at_ j _ hjs] at h1;have h1:¬ j < k:=by simpa using h1
   have:=hl (j-k);rw [show k+(j-k)=j by omega,h2] at this;simp at this
  | @take o v l r a w hy _ ih=>
   intro k listed hl hu hb;simp only [planL,Bool.and_eq_true] at hb;have hi:ops[k]? = some o:=by simpa using (hl 0).symm
   have hl':∀ j:Nat,l[j]? = ops[k+1+j]? := fun j=>by have:=hl (j+1);rw [show k+(j+1)=k+1+j by omega] at this;simpa using this
   refine wpAnyR_first (fun _=>rfl) (fun _ _ _ h k=>h.trans k) hi (Region.noSelect_spec hs) (fun c a w h=>hQ c a _ _ w h) _ listed a w (fun j oj hoj hne hun hno=>?_) (stepOk_ready hi hu hb.1) hy (ih hl' hu.set hb.2);have hjs:=(Array.getElem?_eq_some_iff.1 hoj).1;rw [hu.at_ j _ hjs] at hun;have hun:¬ j < k:=by simpa using hun
   have hm:oj ∈ l:=by
    refine List.mem_of_getElem? (i:=j-(k+1)) ?_;rw [hl',show k+1+(j-(k+1))=j by omega];exact hoj
   have h1:=hb.1;simp only [stepOk,Bool.and_eq_true,Bool.false_eq_true,if_false] at h1;have h2:=List.all_eq_true.1 h1.2 oj hm;simp only [Bool.or_eq_true] at h2
   rcases h2 with h2 | h2
   . obtain ⟨e,he,h3⟩:=any_mem h2;simp only [Bool.and_eq_true,beq_iff_eq] at h3;exact absurd h3.2 (hno e he h3.1)
   exact h2
  | @put o l r a w w1 hw hrun hS _ ih=>
   intro k listed hl hu hb;simp only [planL,Bool.and_eq_true] at hb;have hi:ops[k]? = some o:=by simpa using (hl 0).symm
   have hl':∀ j:Nat,l[j]? = ops[k+1+j]? := fun j=>by have:=hl (j+1);rw [show k+(j+1)=k+1+j by omega] at this;simpa using this
   have hr0:=stepOk_ready hi hu hb.1;have hr:∀ j ∈ Region.ready md ops listed,j=k:=fun j hj=>by
    obtain ⟨hun,oj,hoj,hall⟩:=mem_ready.1 hj;have hjs:=(Array.getElem?_eq_some_iff.1 hoj).1;rw [hu.at_ j _ hjs] at hun;have hun:¬ j < k:=by simpa using hun
    apply Classical.byContradiction;intro hne;have hm:oj ∈ l:=by
     refine List.mem_of_getElem? (i:=j-(k+1)) ?_;rw [hl',show k+1+(j-(k+1))=j by omega];exact hoj
    have h1:=hb.1;simp only [stepOk,Bool.and_eq_true,if_true] at h1;obtain ⟨e,he,h3⟩:=any_mem (List.all_eq_true.1 h1.2 oj hm);simp only [Bool.and_eq_true,decide_eq_true_eq] at h3;have h4:=hall e he h3.1
    rcases Nat.lt_or_ge e.on ops.size with h5 | h5
    . rw [hu.at_ e.on _ h5] at h4;have h4:e.on < k:=by simpa using h4
      omega
    have:listed.size<=e.on:=by rw [hu.size];exact h5
    simp [Array.getD,show ¬ e.on < listed.size by omega] at h4
   intro w' r s;subst r;refine ⟨fun e=>(by rw [e] at hr0;cases hr0),fun j hj=>?_⟩
   obtain rfl:j=k:=hr j hj;unfold Go.wpOp;simp only [hi];rw [if_pos hw];refine .inl ?_;unfold Oper.wp;rw [hrun];exact ⟨hS,ih hl' hu.set hb.2⟩
theorem wp_region_stores {S:World->Prop} {id:Nat} {l:List Oper} {a:Act} (pl:List Bool) (hm:P.follows .mixedOrders=true) (hs:Region.noSelect l.toArray=true)
    (hQ:∀ c a d v w,Q (.panic c) (Act.put a d v) w->Q (.panic c) a w) (hb:planL .any l.toArray l pl 0=true) (hS:S w.drew)
    (h:∀ ops,ops=l.toArray->PlanS P ops Q S l pl a w.drew):(Code.region id l.toArray true).wp P Q a w:=by
  refine wp_region_seq hm (fun _=>rfl) hS ?_;exact (h _ rfl).anyR hs hQ (k:=0) (fun j=>by simp) ⟨by simp,fun j d hj=>by
   have:j < l.length:=by simpa using hj
   simp [Array.getD,this]⟩ hb
end
section
variable {P:Program} {ops L:Array Oper} {Q:Exit->Act->World->Prop} {S:World->Prop} {o:Oper} {v:Value} {l:List Oper} {r:List Bool} {a:Act} {w:World}
theorem tkT (hops:RowKit.Hid (ops=L)) (hy:∀ w,S w->(execOp a.eval o).run P w = .ok (.value v) w) (h:PlanS P ops Q S l r (a.put o.dst v) w) (hw:Region.wanted o (yielded L a.tmps)=true:=by rfl):PlanS P ops Q S (o :: l) (false :: r) a w:=PlanS.take (Or.inl (Or.inl ⟨by rw [hops.out];exact hw,hy⟩)) h
theorem tkS {q:Prop} (hops:RowKit.Hid (ops=L)) (h:q) (hy:∀ w,S w->(execOp a.eval o).run P w = .ok (.value v) w:=by intro w q;go_simp;try with_reducible rfl) (e:PlanS P ops Q S l r (a.put o.dst v) w=q:=by first | (simp only [List.getElem_toArray,List.getElem_cons_zero,List.getElem_cons_succ,Act.put,List.setIfInBounds_toArray,List.set_cons_zero,List.set_cons_succ];exact rfl) | exact rfl) (hw:Region.wanted o (yielded L a.tmps)=true:=by rfl):PlanS P ops Q S (o :: l) (false :: r) a w:=PlanS.take (Or.inl (Or.inl ⟨by rw [hops.out];exact hw,hy⟩)) (e.mpr h)
end
end Go.Proofs.YtdokmmhjmclmnaaGreat
