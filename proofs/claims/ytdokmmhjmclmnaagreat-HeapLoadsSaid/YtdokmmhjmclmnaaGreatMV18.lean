/-
  Part 18 of a proof: RH8.
-/
import Derived.Test.YtdokmmhjmclmnaaGreatMV02
import Derived.Test.YtdokmmhjmclmnaaGreatMV17
set_option linter.unusedSimpArgs false
set_option linter.unusedVariables false
set_option linter.unusedSectionVars false
set_option linter.unnecessarySimpa false
namespace Go.Proofs.YtdokmmhjmclmnaaGreat
variable {W' w w' w0 wb:World} {B a b base c cap ce cn f g gb i j k lb m n oc s sc:Nat} {choice t x:Int} {G W fs l o xs z:List Int} {L:List Hp.Tl} {r:Rd} {S S':Hp.Hs} {A N T:List Nat} {M:List (Nat × Int)} {op p pe pn q sp:Option Addr} {d:Hd} {acts:List Hp.Act'}
open Go.RowKit Go.Maps
theorem pick_free (L:List Hp.Tl):pick true L=(Hp.freeOf L).map fun t=>(t.a:Int):=by
 unfold pick Hp.freeOf
 congr 1
 apply List.filter_congr
 intro t _
 cases t.fr <;> rfl
set_option maxRecDepth 100000 in
set_option maxHeartbeats 8000000 in
theorem rCheckFree {ch:Nat->List Nat} (h:RAt w r S) (hw:Hp.Wf S B L ch) :
    Calls Tryz.prog 69 #[.pointer (some ⟨r.rb,0,none⟩)] w fun e w'=>e = .returned (.bool true)/\Ext w w':=by
  have FREE:=hZ (rFree h hw.fr.toFr hw.hi hw.parts);rw [pick_free] at FREE;have FF:=hZ hw.parts.frees;have lo:=hw.lo;have hi:=hw.hi;have lln:=Hp.lay_len_ hw.parts.lay;have fl:(Hp.freeOf L).length<=L.length:=List.length_filter_le _ _;have H:=hZ h;have hle:=h.words.le;have hcap:=h.words.cap;have hlt:=h.lt;have c2:=h.c2;obtain ⟨gbb,o',hp',hbb,_⟩:=h.words.cells (by omega)
  cases hp'
  obtain ⟨n,hn⟩:∃ n,S.words.length=n:=⟨_,rfl⟩
  have EN:=hZ hn;rw [hn] at lo hi lln hle c2 FF;obtain ⟨F,hF⟩:∃ F,Hp.freeOf L=F:=⟨_,rfl⟩
  rw [hF] at FREE FF fl;obtain ⟨m,hm⟩:∃ m,F.length=m:=⟨_,rfl⟩
  have EM:=hZ hm;rw [hm] at fl;clear h hw hF hn hm;go_enter Tryz.func69,Tryz.ntmps69
  go_wp2_with (go_at_call 84;refine FREE.out.mono ?_;rintro e w1 ⟨p,c,rfl,hR,hE⟩;rw [List.length_map,EM.out];have RR:=hZ hR.at_;have E1:=hZ hE)
  clear hR hE FREE;have lle:=RR.out.le;have lcap:=RR.out.cap;rw [List.length_map,EM.out] at lle
  go_loopg [4,5] m (fun g b i wr=>∃ (j bf:Nat),j<=m/\m-j<=g/\i = .int .i64 j/\b = .int .i64 bf/\bf < n/\Hid (Hp.bef 16 F j=bf)/\Hid (Ext w1 wr))
  case atStart=>exact ⟨0,16,Nat.zero_le _,by omega,rfl,rfl,by omega,hZ (Hp.bef_zero _ _),hZ (Ext.refl _)⟩
  case round=>
   obtain ⟨j,bf,hj,hg,rfl,rfl,hbf,BF,E⟩:=hrel;have Ew:=E1.out.trans E.out;have c2w:=(Ew.cell hlt 2).trans c2;have gbf:=(H.out.ext Ew).get (j:=bf) (by rw [EN.out];exact hbf);have zb:r.rb < wr.heap.size:=Nat.lt_of_lt_of_le hlt Ew.le;have zg:r.gb < wr.heap.size:=Nat.lt_of_lt_of_le hbb Ew.le;have EW:=hZ Ew;clear Ew
   by_cases hlt2:j < m
   . obtain ⟨t,ht⟩:∃ t,F[j]? = some t:=⟨F[j]'(by rw [EM.out];exact hlt2),List.getElem?_eq_getElem (by rw [EM.out];exact hlt2)⟩
     have HTJ:=hZ ht;have hlk:=FF.out.link j t ht;rw [BF.out] at hlk;rw [hlk] at gbf;have hrd:Hp.rd (F.map fun t=>(t.a:Int)) j=some (t.a:Int):=by
      unfold Hp.rd;rw [List.getElem?_map,ht];rfl
     obtain ⟨lb,lo',hlp,hlbb,hlc⟩:=(RR.out.ext E.out).cells (by rw [List.length_map,EM.out];omega);have gl:=hlc j _ hrd;have LCH:=hZ hlc;obtain ⟨p1,p2,p3,p4,p5,p6⟩:=FF.out.part t (List.mem_of_getElem? ht);have gk:=(H.out.ext EW.out).get (j:=t.a+1) (by rw [EN.out];omega);rw [p5] at gk;have P6:=hZ p6;have tk:decide ((j:Int) < (m:Int))=true:=dT;have t0:((t.a:Int) != (t.a:Int))=false:=by simp
     have s1:IntKind.i64.wrap ((t.a:Int)+1)=(t.a:Int)+1:=IntWalk.i64_in _ (by omega);have s2:(0:Int)<=(t.a:Int)+1:=by omega
     have s3:(t.a:Int)+1 < (n:Int):=by omega
     have s4:((t.a:Int)+1).toNat=t.a+1:=by omega
     have s5:IntKind.i64.wrap ((t.a:Int)+(t.k:Int))=(t.a:Int)+(t.k:Int):=IntWalk.i64_in _ (by omega);have q1:(bf:Int) < (n:Int):=by omega
     have q2:(j:Int) < (m:Int):=by omega
     clear hrd hlc ht p4 p5 p6 hlk;subst hlp
     by_cases hj0:j=0
     . have u0:decide (0 < j)=false:=dF;clear hj0;go_upto_region 6 with (fail)
       have pr35a:=fun u_ (h_:Ext wr u_)=>(h_.cell zb 2).trans c2w
       have pr35b:=fun u_ (h_:Ext wr u_)=>(h_.cell hlbb (lo'+j)).trans gl
       have pr35c:=fun u_ (h_:Ext wr u_)=>(h_.cell zg (r.go+bf)).trans gbf
       refine wp_region_seq (S:=fun W=>Ext wr W) (R:=Ext) (by kernel_rfl) Ext.refl ?_ ?_
       . exact exx
       refine' tkL 0 ?_;refine' tkL 1 ?_;refine' tkL 2 ?_;refine' tkL 3 ?_;refine' tkL 4 ?_;refine' tkL 5 ?_;refine' tkL 6 ?_;refine' tkL 7 ?_;refine' tkL 8 ?_;refine' tkL 9 ?_;refine' tkL 10 ?_;refine' tkL 11 ?_;refine' tkL 12 ?_;refine' tkL 13 ?_;refine' tkL 14 ?_;refine' tkL 15 ?_;refine' tkN 16 ?_;refine' tkN 17 ?_;refine' tkN 18 ?_;refine' tkN 19 ?_;refine' tkN 20 ?_;refine' tkN 21 ?_;refine' tkN 22 ?_;refine' tkN 23 ?_;refine' tkN 24 ?_;refine' tkN 25 ?_;refine' tkN 26 ?_;refine' tkN 27 ?_;refine' tkN 28 ?_;refine' tkN 29 ?_;refine' tkN 30 ?_;refine' tkN 31 ?_;refine' tkN 32 ?_;refine' tkN 33 ?_;refine' tkN 34 ?_;refine' tkN 35 ?_;refine' tkN 36 ?_;refine' tkN 37 ?_;refine' tkN 38 ?_;refine' tkL 39 ?_;refine' tkL 40 ?_;refine wpAnyR_done (by kernel_rfl) ?_ _;intro x1 _ Ex1;clear pr35a pr35b pr35c;have EW1:=hZ (EW.out.trans Ex1);have EE1:=hZ (E.out.trans Ex1);have zl1:=Nat.lt_of_lt_of_le hlbb Ex1.le;have gl1:=(Ex1.cell hlbb _).trans gl;have gk1:=(Ex1.cell zg _).trans gk;have c21:=(Ex1.cell zb 2).trans c2w;have zb1:=Nat.lt_of_lt_of_le zb Ex1.le;have zg1:=Nat.lt_of_lt_of_le zg Ex1.le;have BF2:Hid (Hp.bef 16 F (j+1)=t.a+2):=hZ (Hp.bef_succ HTJ.out);clear u0 gl gk c2w gbf EW E Ex1 BF;go_upto_region 9 with (fail)
       go_loopg [6] t.k (fun g x wx=>∃ k:Nat,t.a+3<=k/\k<=t.a+t.k/\t.a+t.k-k<=g/\x = .int .i64 k/\Hid (Ext x1 wx))
       case atStart=>exact ⟨t.a+3,Nat.le_refl _,by omega,by omega,by go_num,hZ (Ext.refl _)⟩
       case round=>
        obtain ⟨k,hk1,hk2,hg2,rfl,E3⟩:=hrel;have c2x:=(E3.out.cell zb1 2).trans c21;have glx:=(E3.out.cell zl1 (lo'+j)).trans gl1;have gkx:=(E3.out.cell zg1 (r.go+(t.a+1))).trans gk1;have zbx:=Nat.lt_of_lt_of_le zb1 E3.out.le;have zgx:=Nat.lt_of_lt_of_le zg1 E3.out.le;have zlx:=Nat.lt_of_lt_of_le zl1 E3.out.le
        by_cases hkk:k < t.a+t.k
        . have v1:decide ((k:Int) < (t.a:Int)+(t.k:Int))=true:=dT;have gz:=(H.out.ext (EW1.out.trans E3.out)).get (j:=k) (by rw [EN.out];omega);rw [P6.out k hk1 hkk] at gz;go_upto_region 9 with (fail)
          have pr36a:=fun u_ (h_:Ext wr u_)=>(h_.cell zbx 2).trans c2x
          have pr36b:=fun u_ (h_:Ext wr u_)=>(h_.cell zlx (lo'+j)).trans glx
          have pr36c:=fun u_ (h_:Ext wr u_)=>(h_.cell zgx (r.go+(t.a+1))).trans gkx
          refine wp_region_seq (S:=fun W=>Ext wr W) (R:=Ext) (by kernel_rfl) Ext.refl ?_ ?_
          . exact exx
          refine' tkL 0 ?_;refine' tkL 1 ?_;refine' tkL 2 ?_;refine' tkL 3 ?_;refine' tkL 4 ?_;refine' tkL 5 ?_;refine' tkL 6 ?_;refine' tkL 7 ?_;refine' tkL 8 ?_;refine' tkL 9 ?_;refine' tkL 10 ?_;refine' tkL 11 ?_;refine' tkL 12 ?_;refine' tkL 13 ?_;refine' tkL 14 ?_;refine' tkL 15 ?_;refine' tkL 16 ?_;refine' tkL 17 ?_;refine wpAnyR_done (by kernel_rfl) ?_ _;intro x3 _ Ex3;clear pr36a pr36b pr36c;have c23:=(Ex3.cell zbx 2).trans c2x;have gz3:=(Ex3.cell zgx _).trans gz;have E4:=hZ (E3.out.trans Ex3)
          go_wp2_with fail
          go_roundg (t.a+t.k-(k+1))
          case measure=>omega
          case rel=>exact ⟨k+1,by omega,by omega,Nat.le_refl _,by go_num,E4⟩
        have v1:decide ((k:Int) < (t.a:Int)+(t.k:Int))=false:=dF;go_upto_region 9 with (fail)
        have pr37a:=fun u_ (h_:Ext wr u_)=>(h_.cell zbx 2).trans c2x
        have pr37b:=fun u_ (h_:Ext wr u_)=>(h_.cell zlx (lo'+j)).trans glx
        have pr37c:=fun u_ (h_:Ext wr u_)=>(h_.cell zgx (r.go+(t.a+1))).trans gkx
        refine wp_region_seq (S:=fun W=>Ext wr W) (R:=Ext) (by kernel_rfl) Ext.refl ?_ ?_
        . exact exx
        refine' tkL 0 ?_;refine' tkL 1 ?_;refine' tkL 2 ?_;refine' tkL 3 ?_;refine' tkL 4 ?_;refine' tkL 5 ?_;refine' tkL 6 ?_;refine' tkL 7 ?_;refine' tkL 8 ?_;refine' tkL 9 ?_;refine' tkL 10 ?_;refine' tkL 11 ?_;refine' tkL 12 ?_;refine' tkL 13 ?_;refine' tkL 14 ?_;refine' tkL 15 ?_;refine' tkL 16 ?_;refine' tkL 17 ?_;refine wpAnyR_done (by kernel_rfl) ?_ _;intro x3 _ Ex3;clear pr37a pr37b pr37c;have gl3:=(Ex3.cell zlx _).trans glx;have E4:=hZ (EE1.out.trans (E3.out.trans Ex3))
        go_wp2_with fail
        go_roundg (m-(j+1))
        case measure=>omega
        case rel=>exact ⟨j+1,t.a+2,by omega,Nat.le_refl _,by go_num,by go_num,by omega,BF2,E4⟩
     obtain ⟨i,hij⟩:∃ i,j=i+1:=⟨j-1,by omega⟩
     obtain ⟨v,hv⟩:∃ v,F[i]? = some v:=⟨F[i]'(by rw [EM.out];omega),List.getElem?_eq_getElem (by rw [EM.out];omega)⟩
     have hfar:=FF.out.far i v t hv (hij ▸ HTJ.out);obtain ⟨v1,v2,v3,v4,v5,v6⟩:=FF.out.part v (List.mem_of_getElem? hv);have hrv:Hp.rd (F.map fun t=>(t.a:Int)) i=some (v.a:Int):=by
      unfold Hp.rd;rw [List.getElem?_map,hv];rfl
     have glv:=LCH.out i _ hrv;have gkv:=(H.out.ext EW.out).get (j:=v.a+1) (by rw [EN.out];omega);rw [v5] at gkv;have u0:decide (0 < j)=true:=dT;have u1:IntKind.i64.wrap ((j:Int)-1)=(i:Int):=by
      rw [show (j:Int)-1=(i:Int) by omega];exact IntWalk.i64_in _ (by omega)
     have u2:(0:Int)<=(i:Int):=by omega
     have u3:(i:Int) < (m:Int):=by omega
     have u4:((i:Int)).toNat=i:=by omega
     have u5:IntKind.i64.wrap ((v.a:Int)+1)=(v.a:Int)+1:=IntWalk.i64_in _ (by omega);have u6:(0:Int)<=(v.a:Int)+1:=by omega
     have u7:(v.a:Int)+1 < (n:Int):=by omega
     have u8:((v.a:Int)+1).toNat=v.a+1:=by omega
     have u9:IntKind.i64.wrap ((v.a:Int)+(v.k:Int))=(v.a:Int)+(v.k:Int):=IntWalk.i64_in _ (by omega);have t1:((v.a:Int)+(v.k:Int) == (t.a:Int))=false:=by simp;omega
     clear hj0 hrv hv v4 v5 v6 hfar hij;go_upto_region 6 with (fail)
     have pr38a:=fun u_ (h_:Ext wr u_)=>(h_.cell zb 2).trans c2w
     have pr38b:=fun u_ (h_:Ext wr u_)=>(h_.cell hlbb (lo'+j)).trans gl
     have pr38c:=fun u_ (h_:Ext wr u_)=>(h_.cell zg (r.go+bf)).trans gbf
     have pr38d:=fun u_ (h_:Ext wr u_)=>(h_.cell hlbb (lo'+i)).trans glv
     have pr38e:=fun u_ (h_:Ext wr u_)=>(h_.cell zg (r.go+(v.a+1))).trans gkv
     refine wp_region_seq (S:=fun W=>Ext wr W) (R:=Ext) (by kernel_rfl) Ext.refl ?_ ?_
     . exact exx
     refine' tkL 0 ?_;refine' tkL 1 ?_;refine' tkL 2 ?_;refine' tkL 3 ?_;refine' tkL 4 ?_;refine' tkL 5 ?_;refine' tkL 6 ?_;refine' tkL 7 ?_;refine' tkL 8 ?_;refine' tkL 9 ?_;refine' tkL 10 ?_;refine' tkL 11 ?_;refine' tkL 12 ?_;refine' tkL 13 ?_;refine' tkL 14 ?_;refine' tkL 15 ?_;refine' tkL 16 ?_;refine' tkL 17 ?_;refine' tkL 18 ?_;refine' tkL 19 ?_;refine' tkL 20 ?_;refine' tkL 21 ?_;refine' tkL 22 ?_;refine' tkL 23 ?_;refine' tkL 24 ?_;refine' tkL 25 ?_;refine' tkL 26 ?_;refine' tkL 27 ?_;refine' tkL 28 ?_;refine' tkL 29 ?_;refine' tkL 30 ?_;refine' tkL 31 ?_;refine' tkL 32 ?_;refine' tkL 33 ?_;refine' tkL 34 ?_;refine' tkL 35 ?_;refine' tkL 36 ?_;refine' tkL 37 ?_;refine' tkL 38 ?_;refine' tkL 39 ?_;refine' tkL 40 ?_;refine wpAnyR_done (by kernel_rfl) ?_ _;intro x1 _ Ex1;clear pr38a pr38b pr38c pr38d pr38e;clear glv gkv u1 u2 u3 u4 u5 u6 u7 u8 u9 t1;have EW1:=hZ (EW.out.trans Ex1);have EE1:=hZ (E.out.trans Ex1);have zl1:=Nat.lt_of_lt_of_le hlbb Ex1.le;have gl1:=(Ex1.cell hlbb _).trans gl;have gk1:=(Ex1.cell zg _).trans gk;have c21:=(Ex1.cell zb 2).trans c2w;have zb1:=Nat.lt_of_lt_of_le zb Ex1.le;have zg1:=Nat.lt_of_lt_of_le zg Ex1.le;have BF2:Hid (Hp.bef 16 F (j+1)=t.a+2):=hZ (Hp.bef_succ HTJ.out);clear u0 gl gk c2w gbf EW E Ex1 BF;go_upto_region 9 with (fail)
     go_loopg [6] t.k (fun g x wx=>∃ k:Nat,t.a+3<=k/\k<=t.a+t.k/\t.a+t.k-k<=g/\x = .int .i64 k/\Hid (Ext x1 wx))
     case atStart=>exact ⟨t.a+3,Nat.le_refl _,by omega,by omega,by go_num,hZ (Ext.refl _)⟩
     case round=>
      obtain ⟨k,hk1,hk2,hg2,rfl,E3⟩:=hrel;have c2x:=(E3.out.cell zb1 2).trans c21;have glx:=(E3.out.cell zl1 (lo'+j)).trans gl1;have gkx:=(E3.out.cell zg1 (r.go+(t.a+1))).trans gk1;have zbx:=Nat.lt_of_lt_of_le zb1 E3.out.le;have zgx:=Nat.lt_of_lt_of_le zg1 E3.out.le;have zlx:=Nat.lt_of_lt_of_le zl1 E3.out.le
      by_cases hkk:k < t.a+t.k
      . have v1:decide ((k:Int) < (t.a:Int)+(t.k:Int))=true:=dT;have gz:=(H.out.ext (EW1.out.trans E3.out)).get (j:=k) (by rw [EN.out];omega);rw [P6.out k hk1 hkk] at gz;go_upto_region 9 with (fail)
        have pr39a:=fun u_ (h_:Ext wr u_)=>(h_.cell zbx 2).trans c2x
        have pr39b:=fun u_ (h_:Ext wr u_)=>(h_.cell zlx (lo'+j)).trans glx
        have pr39c:=fun u_ (h_:Ext wr u_)=>(h_.cell zgx (r.go+(t.a+1))).trans gkx
        refine wp_region_seq (S:=fun W=>Ext wr W) (R:=Ext) (by kernel_rfl) Ext.refl ?_ ?_
        . exact exx
        refine' tkL 0 ?_;refine' tkL 1 ?_;refine' tkL 2 ?_;refine' tkL 3 ?_;refine' tkL 4 ?_;refine' tkL 5 ?_;refine' tkL 6 ?_;refine' tkL 7 ?_;refine' tkL 8 ?_;refine' tkL 9 ?_;refine' tkL 10 ?_;refine' tkL 11 ?_;refine' tkL 12 ?_;refine' tkL 13 ?_;refine' tkL 14 ?_;refine' tkL 15 ?_;refine' tkL 16 ?_;refine' tkL 17 ?_;refine wpAnyR_done (by kernel_rfl) ?_ _;intro x3 _ Ex3;clear pr39a pr39b pr39c;have c23:=(Ex3.cell zbx 2).trans c2x;have gz3:=(Ex3.cell zgx _).trans gz;have E4:=hZ (E3.out.trans Ex3)
        go_wp2_with fail
        go_roundg (t.a+t.k-(k+1))
        case measure=>omega
        case rel=>exact ⟨k+1,by omega,by omega,Nat.le_refl _,by go_num,E4⟩
      have v1:decide ((k:Int) < (t.a:Int)+(t.k:Int))=false:=dF;go_upto_region 9 with (fail)
      have pr40a:=fun u_ (h_:Ext wr u_)=>(h_.cell zbx 2).trans c2x
      have pr40b:=fun u_ (h_:Ext wr u_)=>(h_.cell zlx (lo'+j)).trans glx
      have pr40c:=fun u_ (h_:Ext wr u_)=>(h_.cell zgx (r.go+(t.a+1))).trans gkx
      refine wp_region_seq (S:=fun W=>Ext wr W) (R:=Ext) (by kernel_rfl) Ext.refl ?_ ?_
      . exact exx
      refine' tkL 0 ?_;refine' tkL 1 ?_;refine' tkL 2 ?_;refine' tkL 3 ?_;refine' tkL 4 ?_;refine' tkL 5 ?_;refine' tkL 6 ?_;refine' tkL 7 ?_;refine' tkL 8 ?_;refine' tkL 9 ?_;refine' tkL 10 ?_;refine' tkL 11 ?_;refine' tkL 12 ?_;refine' tkL 13 ?_;refine' tkL 14 ?_;refine' tkL 15 ?_;refine' tkL 16 ?_;refine' tkL 17 ?_;refine wpAnyR_done (by kernel_rfl) ?_ _;intro x3 _ Ex3;clear pr40a pr40b pr40c;have gl3:=(Ex3.cell zlx _).trans glx;have E4:=hZ (EE1.out.trans (E3.out.trans Ex3))
      go_wp2_with fail
      go_roundg (m-(j+1))
      case measure=>omega
      case rel=>exact ⟨j+1,t.a+2,by omega,Nat.le_refl _,by go_num,by go_num,by omega,BF2,E4⟩
   have:j=m:=by omega
   subst this;have tk:decide ((j:Int) < (j:Int))=false:=dF;have hlast:=FF.out.last;rw [EM.out,BF.out] at hlast;rw [hlast] at gbf;have t0:((0:Int) == 0)=true:=by decide
   clear hlast
   go_wp2_with fail
   go_returns;exact ⟨rfl,EW.out⟩
end Go.Proofs.YtdokmmhjmclmnaaGreat
