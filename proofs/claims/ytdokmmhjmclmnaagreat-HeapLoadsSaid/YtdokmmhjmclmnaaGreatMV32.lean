/-
  Part 32 of a proof: RP8 VR3 LL3 LL4.
-/
import Derived.ChangeKeysEq
import Derived.Test.YtdokmmhjmclmnaaGreatMV03
import Derived.Test.YtdokmmhjmclmnaaGreatMV15
import Derived.Test.YtdokmmhjmclmnaaGreatMV17
import Derived.Test.YtdokmmhjmclmnaaGreatMV18
import Derived.Test.YtdokmmhjmclmnaaGreatMV22
import Derived.Test.YtdokmmhjmclmnaaGreatMV25
import Derived.Test.YtdokmmhjmclmnaaGreatMV26
import Derived.Test.YtdokmmhjmclmnaaGreatMV28
import Derived.Test.YtdokmmhjmclmnaaGreatMV31
set_option linter.unusedSimpArgs false
set_option linter.unusedVariables false
set_option linter.unusedSectionVars false
set_option linter.unnecessarySimpa false
namespace Go.Proofs.YtdokmmhjmclmnaaGreat
variable {W' w w' w0 wb:World} {B a b base c cap ce cn f g gb i j k lb m n oc s sc:Nat} {choice t x:Int} {G W fs l o xs z:List Int} {L:List Hp.Tl} {r:Rd} {S S':Hp.Hs} {A N T:List Nat} {M:List (Nat × Int)} {op p pe pn q sp:Option Addr} {d:Hd} {acts:List Hp.Act'}
open Go.RowKit Go.Maps
set_option maxRecDepth 100000 in
set_option maxHeartbeats 4000000 in
theorem rKid {ch:Nat->List Nat} (h:RAt w r S) (hw:Hp.Wf S B L ch) {Y:List Nat} (hY:∀ y ∈ Y,y ∈ S.taken) (hp:SliceAt w p c (Hp.natsI Y)) {b:Bool} (hb:b=true ↔ Hp.KidOf S Y a) :
    Calls Tryz.prog 140 #[.pointer (some ⟨r.rb,0,none⟩),.slice p Y.length c,.int .i64 a] w fun e w'=>e = .returned (.bool b)/\Ext w w':=by
  have FLD:=hZ (fun b (hb:b ∈ S.taken) W (hW:Ext w W)=>rField (h.ext hW) hw hb);have FAT:=hZ (fun b (hb:b ∈ S.taken) W (hW:Ext w W)=>fieldAt (h.ext hW) hw hb);have H:=hZ h;have HW:=hZ hw;have HY:=hZ hY;have HP:=hZ hp;have HB:=hZ hb;have hle:=hp.le;have hcap:=hp.cap;rw [Hp.natsI_len] at hle;obtain ⟨m,hm⟩:∃ m,Y.length=m:=⟨_,rfl⟩
  have EM:=hZ hm;rw [hm] at hle ⊢;clear h hw hY hp hb hm;go_enter Tryz.func140,Tryz.ntmps140
  go_wp2_with fail
  go_loopg [7] m (fun g i wr=>∃ j:Nat,j<=m/\m-j<=g/\i = .int .i64 j/\Hid (Ext w wr)/\Hid (∀ i y,i < j->Y[i]? = some y->(a:Int) ∉ Hp.kz (Hp.ow S.words) S.sizes y))
  case atStart=>exact ⟨0,Nat.zero_le _,by omega,rfl,hZ (Ext.refl w),hZ (fun i _ hi=>absurd hi (Nat.not_lt_zero _))⟩
  case round=>
   obtain ⟨j,hj,hg,rfl,E,A⟩:=hrel
   by_cases hlt:j < m
   . obtain ⟨y,hy⟩:∃ y,Y[j]? = some y:=⟨_,List.getElem?_eq_getElem (by rw [EM.out];exact hlt)⟩
     have hyt:=HY.out y (List.mem_of_getElem? hy);have pb:=HW.out.part hyt;obtain ⟨lb,lo,hlp,hlbb,hlc⟩:=(HP.out.ext E.out).cells (by rw [Hp.natsI_len,EM.out];omega);have gl:=hlc j _ (Hp.natsI_rd hy);have tk:decide ((j:Int) < (m:Int))=true:=dT;have HYJ:=hZ hy;have RI:=hZ (rIsNode (H.out.ext E.out) (a:=y) (by omega));subst hlp
     cases he:Hp.isEnd (Hp.ow S.words y) with
     | true=>
      have hne:¬ Hp.ow S.words y < 20:=by
       simp only [Hp.isEnd,Hp.within,Bool.and_eq_true,decide_eq_true_eq] at he;omega
      rw [decide_eq_false hne] at RI;have A2:Hid (∀ i z,i < j+1->Y[i]? = some z->(a:Int) ∉ Hp.kz (Hp.ow S.words) S.sizes z):=hZ (fun i z hi hz=>by
       by_cases e:i=j
       . subst e;rw [HYJ.out] at hz
         cases hz
         simp [Hp.kz,he]
       . exact A.out i z (by omega) hz)
      clear hlc hy hyt pb he hne
      go_wp2_with (go_at_call 87;refine (RI.out).mono ?_;rintro e w1 ⟨rfl,hb1⟩;obtain ⟨hc1,hf1,hs1⟩:=hb1.cells)
      have E2:=hZ (E.out.trans hb1)
      go_roundg (m-(j+1))
      case measure=>omega
      case rel=>exact ⟨j+1,by omega,Nat.le_refl _,by go_num,E2,A2⟩
     | false=>
      have hnd:=Hp.isNode_of (HW.out.cells.tags y hyt) he;have hlt20:Hp.ow S.words y < 20:=by
       simp only [Hp.isNode,Hp.within,Bool.and_eq_true,decide_eq_true_eq] at hnd;have:=HW.out.fr.few;omega
      rw [decide_eq_true hlt20] at RI;have ekz:Hp.kz (Hp.ow S.words) S.sizes y=Hp.fz (Hp.ow S.words) S.sizes y:=by simp [Hp.kz,he]
      have FL:=hZ (fun W (hW:Ext w W)=>FLD.out y hyt W hW);have FA:=hZ (fun W (hW:Ext w W)=>FAT.out y hyt W hW);obtain ⟨bb,hbb⟩:∃ bb,(Hp.fz (Hp.ow S.words) S.sizes y).contains (a:Int)=bb:=⟨_,rfl⟩
      have HC:=hZ (fun W (hW:Ext w W)=>rHas_is hbb (FA.out W hW));have EK:=hZ ekz;have HBB:=hZ hbb;generalize (Hp.fz (Hp.ow S.words) S.sizes y).length=fl at *;clear hlc hy hyt pb he hnd hlt20 ekz hbb
      cases bb with
      | true=>
       have hbt:b=true:=HB.out.2 ⟨y,List.mem_of_getElem? HYJ.out,by
        rw [EK.out];have:=HBB.out
        simpa using this⟩
       subst hbt
       go_wp2_with (first
        | (go_at_call 87;refine (RI.out).mono ?_;rintro e w1 ⟨rfl,hb1⟩;obtain ⟨hc1,hf1,hs1⟩:=hb1.cells;have gl2:=(hb1.cell hlbb (lo+j)).trans gl)
        | (go_at_call 88;refine (FL.out _ (E.out.trans hb1)).mono ?_;rintro e w2 ⟨rfl,hb2⟩;obtain ⟨hc2,hf2,hs2⟩:=hb2.cells)
        | (go_at_call 85;refine (HC.out _ (E.out.trans (hb1.trans hb2))).mono ?_;rintro e w3 ⟨rfl,hb3⟩;obtain ⟨hc3,hf3,hs3⟩:=hb3.cells))
       go_returns;exact ⟨rfl,E.out.trans ((hb1.trans hb2).trans hb3)⟩
      | false=>
       have A2:Hid (∀ i z,i < j+1->Y[i]? = some z->(a:Int) ∉ Hp.kz (Hp.ow S.words) S.sizes z):=hZ (fun i z hi hz=>by
        by_cases e:i=j
        . subst e;rw [HYJ.out] at hz
          cases hz
          rw [EK.out];have:=HBB.out
          simpa using this
        . exact A.out i z (by omega) hz)
       go_wp2_with (first
        | (go_at_call 87;refine (RI.out).mono ?_;rintro e w1 ⟨rfl,hb1⟩;obtain ⟨hc1,hf1,hs1⟩:=hb1.cells;have gl2:=(hb1.cell hlbb (lo+j)).trans gl)
        | (go_at_call 88;refine (FL.out _ (E.out.trans hb1)).mono ?_;rintro e w2 ⟨rfl,hb2⟩;obtain ⟨hc2,hf2,hs2⟩:=hb2.cells)
        | (go_at_call 85;refine (HC.out _ (E.out.trans (hb1.trans hb2))).mono ?_;rintro e w3 ⟨rfl,hb3⟩;obtain ⟨hc3,hf3,hs3⟩:=hb3.cells))
       have E2:=hZ (E.out.trans ((hb1.trans hb2).trans hb3))
       go_roundg (m-(j+1))
       case measure=>omega
       case rel=>exact ⟨j+1,by omega,Nat.le_refl _,by go_num,E2,A2⟩
   have:j=m:=by omega
   subst this;have tk:decide ((j:Int) < (j:Int))=false:=dF;have hbf:b=false:=by
    cases b with
    | false=>rfl
    | true=>
     obtain ⟨y,hy,hk⟩:=HB.out.1 rfl;obtain ⟨i,hi,e⟩:=List.getElem_of_mem hy;exact absurd hk (A.out i y (by rw [<- EM.out];exact hi) (by rw [List.getElem?_eq_getElem hi,e]))
   subst hbf
   go_wp2_with fail
   go_returns;exact ⟨rfl,E.out⟩
def RLivePost (w:World) (T:List Nat) (e:Ending) (w':World):Prop:=∃ Y p c b0,e = .returned (.slice p Y.length c)/\w.heap.size<=b0/\Row w' b0 p c (Hp.natsI Y)/\Ext w w'/\(∀ a,a ∈ Y ↔ a ∈ T)/\Y.length=T.length
set_option maxRecDepth 100000 in
set_option maxHeartbeats 16000000 in
theorem rLive {ch:Nat->List Nat} (h:RAt w r S) (hw:Hp.Wf S B L ch) (hT:S.live=some T) :
    Calls Tryz.prog 83 #[.pointer (some ⟨r.rb,0,none⟩)] w (RLivePost w T):=by
  have CELLS:=hZ (rCells_ h hw);have H:=hZ h;have HW:=hZ hw;have HT:=hZ hT;have few:=hw.few;have hhi:=hw.hi;have hle:=h.words.le;have hcap:=h.words.cap;have hlt:=h.lt;obtain ⟨gbb,o',hp',hbb,_⟩:=h.words.cells (by have:=hw.lo;omega)
  cases hp'
  have c2:=h.c2;obtain ⟨n,hn⟩:∃ n,S.words.length=n:=⟨_,rfl⟩
  have EN:=hZ hn;rw [hn] at c2 hle few hhi;obtain ⟨m,hm⟩:∃ m,S.taken.length=m:=⟨_,rfl⟩
  have EM:=hZ hm;rw [hm] at few;clear h hw hT hn hm;go_enter Tryz.func83,Tryz.ntmps83
  go_wp2_with (go_at_call 82;refine CELLS.out.mono ?_;rintro e w1 ⟨p,c,rfl,hR,hE⟩;rw [cellsI_len,EM.out];have RR:=hZ hR.at_;have E1:=hZ hE)
  clear hR hE CELLS;have lle:=RR.out.le;have lcap:=RR.out.cap;rw [cellsI_len,EM.out] at lle
  go_loopg [3,5] (2 * m+1) (fun g o nn wr=>∃ (Y:List Nat) (k:Int) (p2:Option Addr) (c2':Nat),2 * (m-Y.length)<=g/\(k < (Y.length:Int)->2 * (m-Y.length)+1<=g)/\k<=(Y.length:Int)/\o = .slice p2 Y.length c2'/\nn = .int .i64 k/\Hid (k=(Y.length:Int)->Hp.ShutTo S Y m)/\Hid (Hp.Finding S T Y)/\Hid (Row wr w1.heap.size p2 c2' (Hp.natsI Y))/\Hid (Ext w1 wr))
  case atStart=>exact ⟨[],-1,none,0,by simp,by simp,by simp,rfl,rfl,hZ (fun e=>by simp at e),hZ (Hp.Finding.start S T),hZ (Row.nil _ _),hZ (Ext.refl _)⟩
  case round=>
   obtain ⟨Y,k,p2,cp2,hg1,hg2,hk,rfl,rfl,SH,F,R,E⟩:=hrel;have flen:=F.out.len HW.out HT.out;rw [EM.out] at flen;obtain ⟨yl,hyl⟩:∃ yl,Y.length=yl:=⟨_,rfl⟩
   have EY:=hZ hyl;rw [hyl] at hg1 hg2 hk flen ⊢;clear hyl
   by_cases hkl:k < (yl:Int)
   . have tk:decide (k < (yl:Int))=true:=decide_eq_true hkl;have hg3:=hg2 hkl;clear SH hg2 hg1
     go_wp2_with fail
     go_loopg [3,6] m (fun g o i wr=>∃ (j:Nat) (Y2:List Nat) (p2:Option Addr) (c2':Nat),j<=m/\m-j<=g/\yl<=Y2.length/\o = .slice p2 Y2.length c2'/\i = .int .i64 j/\Hid (Y2.length=yl->Hp.ShutTo S Y2 j)/\Hid (Hp.Finding S T Y2)/\Hid (Row wr w1.heap.size p2 c2' (Hp.natsI Y2))/\Hid (Ext w1 wr))
     case atStart=>exact ⟨0,Y,p2,cp2,Nat.zero_le _,by omega,by rw [EY.out];exact Nat.le_refl _,by rw [EY.out],rfl,hZ (fun _ i _ hi=>absurd hi (Nat.not_lt_zero _)),F,R,E⟩
     case round=>
      obtain ⟨j,Y2,p3,c3,hj,hgj,hy2,rfl,rfl,SH,F2,R2,E2⟩:=hrel;clear F R E EY;have flen2:=F2.out.len HW.out HT.out;rw [EM.out] at flen2
      by_cases hlt2:j < m
      . obtain ⟨a,ha,haj,hrd⟩:=cellsI_rd (S:=S) (j:=j) (by rw [EM.out];exact hlt2);have pa:=HW.out.part ha;obtain ⟨lb,lo,hlp,hlbb,hlc⟩:=(RR.out.ext E2.out).cells (by rw [cellsI_len,EM.out];omega);have gl:=hlc j _ hrd;have Ew:=E1.out.trans E2.out;have c2w:=(Ew.cell hlt 2).trans c2;have gw:=(H.out.ext Ew).get (j:=a+2) (by omega);rw [EN.out] at pa;have zb:r.rb < wr.heap.size:=Nat.lt_of_lt_of_le hlt Ew.le;have zg:r.gb < wr.heap.size:=Nat.lt_of_lt_of_le hbb Ew.le;have a2:a+2 < n:=by omega
        have EW:=hZ Ew;have HA:=hZ ha;have HAJ:=hZ haj;have HY2:=hZ (fun y (hy:y ∈ Y2)=>(Hp.live_in HW.out HT.out).1 y (F2.out.sub y hy));have SR:=hZ R2.out.at_;have tk:decide ((j:Int) < (m:Int))=true:=dT;have wsz:w1.heap.size<=wr.heap.size:=E2.out.le;have q1:=SR.out.le;have q2:=SR.out.cap;rw [Hp.natsI_len] at q1;obtain ⟨bh,hbh⟩:∃ bh,Y2.contains a=bh:=⟨_,rfl⟩
        have HAS:=hZ (fun W (hW:Ext wr W)=>by
         have:=rHas_is (Hp.natsI_contains.trans hbh) (SR.out.ext hW);rw [Hp.natsI_len] at this;exact this)
        have HBH:=hZ hbh;obtain ⟨i1,i2,i3,i4⟩:IntKind.i64.wrap (((a:Nat):Int)+2)=((a:Nat):Int)+2/\(0:Int)<=((a:Nat):Int)+2/\((a:Nat):Int)+2 < ((n:Nat):Int)/\(((a:Nat):Int)+2).toNat=a+2:=⟨IntWalk.i64_in _ (by omega),by omega,by omega,by omega⟩
        subst hlp;clear hlc hrd ha haj pa Ew hbh;generalize hv:Hp.ow S.words (a+2)=v at gw;have HV:=hZ hv;clear hv
        cases bh with
        | true=>
         have S2:Hid (Y2.length=yl->Hp.ShutTo S Y2 (j+1)):=hZ (fun e i z hi hz hwz=>by
          by_cases e':i=j
          . subst e';rw [HAJ.out] at hz
            cases hz
            have:=HBH.out
            simpa using this
          . exact SH.out e i z (by omega) hz hwz)
         go_wp2_with fail
         have pr78a:=fun u_ (h_:Ext wr u_)=>(h_.cell zb 2).trans c2w
         have pr78b:=fun u_ (h_:Ext wr u_)=>(h_.cell hlbb (lo+j)).trans gl
         have pr78c:=fun u_ (h_:Ext wr u_)=>(h_.cell zg (r.go+(a+2))).trans gw
         refine wp_region_seq (S:=fun W=>Ext wr W) (R:=Ext) (by kernel_rfl) Ext.refl ?_ ?_
         . exact exx
         refine' tkL 0 ?_;refine' tkL 1 ?_;refine' tkL 2 ?_;refine' tkL 3 ?_;refine' tkL 4 ?_;refine' tkR 5 (v:=.bool true) rfl (Or.inr ⟨by rfl,85,_, ?hx5_2085, ?hy5_2085⟩) ?rest5_2085
         case hx5_2085=>(intro w hSw;go_simp;try with_reducible rfl)
         case hy5_2085=>exact fun w hE=>(HAS.out _ hE).mono (fun _ _ h=>⟨h.1,h.2,Ext.trans hE h.2⟩)
         refine layy ?_;refine' tkL 6 ?_;refine' tkL 7 ?_;refine' tkN 8 ?_;refine' tkN 9 ?_;refine' tkN 10 ?_;refine' tkN 11 ?_;refine' tkN 12 ?_;refine' tkN 13 ?_;refine' tkN 14 ?_;refine' tkN 15 ?_;refine' tkN 16 ?_;refine' tkN 17 ?_;refine' tkN 18 ?_;refine' tkN 19 ?_;refine' tkN 20 ?_;refine' tkN 21 ?_;refine' tkN 22 ?_;refine' tkN 23 ?_;refine' tkN 24 ?_;refine' tkN 25 ?_;refine' tkN 26 ?_;refine' tkN 27 ?_;refine' tkN 28 ?_;refine' tkL 29 ?_;refine wpAnyR_done (by kernel_rfl) ?_ _;intro x1 _ Ex1;clear pr78a pr78b pr78c;have E3:=hZ (E2.out.trans Ex1);have R3:=hZ (R2.out.ext Ex1)
         go_wp2_with fail
         go_roundg (m-(j+1))
         case measure=>omega
         case rel=>exact ⟨j+1,Y2,p3,c3,by omega,Nat.le_refl _,hy2,rfl,by go_num,S2,F2,R3,E3⟩
        | false=>
         have hnot:a ∉ Y2:=by
          have:=HBH.out
          simpa using this
         have hnots:=hZ hnot;clear hnot
         by_cases hpos:0 < v
         . have t1:decide (v > 0)=true:=decide_eq_true hpos;have t2:decide (0 < v)=true:=decide_eq_true hpos;have F3:=hZ (F2.out.add HW.out HT.out HA.out hnots.out (.inl (by rw [HV.out];exact hpos)));clear hpos
           go_wp2_with fail
           have pr79a:=fun u_ (h_:Ext wr u_)=>(h_.cell zb 2).trans c2w
           have pr79b:=fun u_ (h_:Ext wr u_)=>(h_.cell hlbb (lo+j)).trans gl
           have pr79c:=fun u_ (h_:Ext wr u_)=>(h_.cell zg (r.go+(a+2))).trans gw
           refine wp_region_seq (S:=fun W=>Ext wr W) (R:=Ext) (by kernel_rfl) Ext.refl ?_ ?_
           . exact exx
           refine' tkL 0 ?_;refine' tkL 1 ?_;refine' tkL 2 ?_;refine' tkL 3 ?_;refine' tkL 4 ?_;refine' tkR 5 (v:=.bool false) rfl (Or.inr ⟨by rfl,85,_, ?hx5_2115, ?hy5_2115⟩) ?rest5_2115
           case hx5_2115=>(intro w hSw;go_simp;try with_reducible rfl)
           case hy5_2115=>exact fun w hE=>(HAS.out _ hE).mono (fun _ _ h=>⟨h.1,h.2,Ext.trans hE h.2⟩)
           refine layy ?_;refine' tkL 6 ?_;refine' tkL 7 ?_;refine' tkL 8 ?_;refine' tkL 9 ?_;refine' tkL 10 ?_;refine' tkL 11 ?_;refine' tkL 12 ?_;refine' tkL 13 ?_;refine' tkL 14 ?_;refine' tkL 15 ?_;refine' tkL 16 ?_;refine' tkL 17 ?_;refine' tkL 18 ?_;refine' tkL 19 ?_;refine' tkL 20 ?_;refine' tkN 21 ?_;refine' tkN 22 ?_;refine' tkN 23 ?_;refine' tkN 24 ?_;refine' tkN 25 ?_;refine' tkN 26 ?_;refine' tkN 27 ?_;refine' tkL 28 ?_;refine' tkL 29 ?_;refine wpAnyR_done (by kernel_rfl) ?_ _;intro x1 _ Ex1;clear pr79a pr79b pr79c;have E3:=hZ (E2.out.trans Ex1);have R3:=hZ (R2.out.ext Ex1);have gl2:=(Ex1.cell hlbb (lo+j)).trans gl;have zl:=Nat.lt_of_lt_of_le hlbb Ex1.le;have wsz2:=Nat.le_trans wsz Ex1.le;have RA:=hZ (R3.out.ext (Ext.alloc (Ext.refl _) (.cells #[.int .i64 a] 3)));have FL3:=F3.out.len HW.out HT.out;have eF:(Hp.natsI Y2).length=Y2.length:=Hp.natsI_len Y2
           go_wp2_with (at_builtin;rw [<- Hp.natsI_len Y2];refine wpList_append_int rfl _ _ rfl (y:=(a:Int)) rfl rfl RA.out (by go_simp) (by omega) (by omega) (by omega) (by simp;omega) ?_;intro g8 c8 x8 hR8 hG8;obtain ⟨row,hgr,hrow⟩:=id hG8;have E8:Ext w1 x8:=ext_grow (E3.out.alloc _) hgr hrow;have R8H:=hZ hR8)
           go_roundg (m-(j+1))
           case measure=>omega
           case rel=>exact ⟨j+1,Y2 ++ [a],some ⟨g8,0,none⟩,c8,by omega,Nat.le_refl _,by simp;omega,by simp [Hp.natsI_len],by go_num,hZ (fun e=>by simp at e;omega),F3,hZ (by rw [Hp.natsI_app];exact R8H.out),hZ E8⟩
         have t1:decide (v > 0)=false:=decide_eq_false hpos;have t2:decide (0 < v)=false:=decide_eq_false hpos;have HPOS:=hZ hpos;clear hpos
         by_cases hkd:Hp.KidOf S Y2 a
         . have F3:=hZ (F2.out.add HW.out HT.out HA.out hnots.out (.inr hkd));have KID:=hZ (fun W (hW:Ext wr W)=>rKid (H.out.ext (EW.out.trans hW)) HW.out HY2.out (SR.out.ext hW) (a:=a) (b:=true) ⟨fun _=>hkd,fun _=>rfl⟩);clear hkd
           go_wp2_with fail
           have pr80a:=fun u_ (h_:Ext wr u_)=>(h_.cell zb 2).trans c2w
           have pr80b:=fun u_ (h_:Ext wr u_)=>(h_.cell hlbb (lo+j)).trans gl
           have pr80c:=fun u_ (h_:Ext wr u_)=>(h_.cell zg (r.go+(a+2))).trans gw
           refine wp_region_seq (S:=fun W=>Ext wr W) (R:=Ext) (by kernel_rfl) Ext.refl ?_ ?_
           . exact exx
           refine' tkL 0 ?_;refine' tkL 1 ?_;refine' tkL 2 ?_;refine' tkL 3 ?_;refine' tkL 4 ?_;refine' tkR 5 (v:=.bool false) rfl (Or.inr ⟨by rfl,85,_, ?hx5_2145, ?hy5_2145⟩) ?rest5_2145
           case hx5_2145=>(intro w hSw;go_simp;try with_reducible rfl)
           case hy5_2145=>exact fun w hE=>(HAS.out _ hE).mono (fun _ _ h=>⟨h.1,h.2,Ext.trans hE h.2⟩)
           refine layy ?_;refine' tkL 6 ?_;refine' tkL 7 ?_;refine' tkL 8 ?_;refine' tkL 9 ?_;refine' tkL 10 ?_;refine' tkL 11 ?_;refine' tkL 12 ?_;refine' tkL 13 ?_;refine' tkL 14 ?_;refine' tkL 15 ?_;refine' tkL 16 ?_;refine' tkL 17 ?_;refine' tkL 18 ?_;refine' tkL 19 ?_;refine' tkL 20 ?_;refine' tkL 21 ?_;refine' tkL 22 ?_;refine' tkL 23 ?_;refine' tkL 24 ?_;refine' tkL 25 ?_;refine' tkL 26 ?_;refine' tkR 27 (v:=.bool true) rfl (Or.inr ⟨by rfl,140,_, ?hx27_2167, ?hy27_2167⟩) ?rest27_2167
           case hx27_2167=>(intro w hSw;go_simp;try with_reducible rfl)
           case hy27_2167=>exact fun w hE=>(KID.out _ hE).mono (fun _ _ h=>⟨h.1,h.2,Ext.trans hE h.2⟩)
           refine layy ?_;refine' tkL 28 ?_;refine' tkL 29 ?_;refine wpAnyR_done (by kernel_rfl) ?_ _;intro x1 _ Ex1;clear pr80a pr80b pr80c;have E3:=hZ (E2.out.trans Ex1);have R3:=hZ (R2.out.ext Ex1);have gl2:=(Ex1.cell hlbb (lo+j)).trans gl;have zl:=Nat.lt_of_lt_of_le hlbb Ex1.le;have wsz2:=Nat.le_trans wsz Ex1.le;have RA:=hZ (R3.out.ext (Ext.alloc (Ext.refl _) (.cells #[.int .i64 a] 3)));have FL3:=F3.out.len HW.out HT.out;have eF:(Hp.natsI Y2).length=Y2.length:=Hp.natsI_len Y2
           go_wp2_with (at_builtin;rw [<- Hp.natsI_len Y2];refine wpList_append_int rfl _ _ rfl (y:=(a:Int)) rfl rfl RA.out (by go_simp) (by omega) (by omega) (by omega) (by simp;omega) ?_;intro g8 c8 x8 hR8 hG8;obtain ⟨row,hgr,hrow⟩:=id hG8;have E8:Ext w1 x8:=ext_grow (E3.out.alloc _) hgr hrow;have R8H:=hZ hR8)
           go_roundg (m-(j+1))
           case measure=>omega
           case rel=>exact ⟨j+1,Y2 ++ [a],some ⟨g8,0,none⟩,c8,by omega,Nat.le_refl _,by simp;omega,by simp [Hp.natsI_len],by go_num,hZ (fun e=>by simp at e;omega),F3,hZ (by rw [Hp.natsI_app];exact R8H.out),hZ E8⟩
         have KID:=hZ (fun W (hW:Ext wr W)=>rKid (H.out.ext (EW.out.trans hW)) HW.out HY2.out (SR.out.ext hW) (a:=a) (b:=false) ⟨fun e=>(by cases e),fun e=>absurd e hkd⟩);have S2:Hid (Y2.length=yl->Hp.ShutTo S Y2 (j+1)):=hZ (fun e i z hi hz hwz=>by
          by_cases e':i=j
          . subst e';rw [HAJ.out] at hz
            cases hz
            rcases hwz with q | q
            . rw [HV.out] at q;exact absurd q HPOS.out
            exact absurd q hkd
          . exact SH.out e i z (by omega) hz hwz)
         clear hkd
         go_wp2_with fail
         have pr81a:=fun u_ (h_:Ext wr u_)=>(h_.cell zb 2).trans c2w
         have pr81b:=fun u_ (h_:Ext wr u_)=>(h_.cell hlbb (lo+j)).trans gl
         have pr81c:=fun u_ (h_:Ext wr u_)=>(h_.cell zg (r.go+(a+2))).trans gw
         refine wp_region_seq (S:=fun W=>Ext wr W) (R:=Ext) (by kernel_rfl) Ext.refl ?_ ?_
         . exact exx
         refine' tkL 0 ?_;refine' tkL 1 ?_;refine' tkL 2 ?_;refine' tkL 3 ?_;refine' tkL 4 ?_;refine' tkR 5 (v:=.bool false) rfl (Or.inr ⟨by rfl,85,_, ?hx5_2175, ?hy5_2175⟩) ?rest5_2175
         case hx5_2175=>(intro w hSw;go_simp;try with_reducible rfl)
         case hy5_2175=>exact fun w hE=>(HAS.out _ hE).mono (fun _ _ h=>⟨h.1,h.2,Ext.trans hE h.2⟩)
         refine layy ?_;refine' tkL 6 ?_;refine' tkL 7 ?_;refine' tkL 8 ?_;refine' tkL 9 ?_;refine' tkL 10 ?_;refine' tkL 11 ?_;refine' tkL 12 ?_;refine' tkL 13 ?_;refine' tkL 14 ?_;refine' tkL 15 ?_;refine' tkL 16 ?_;refine' tkL 17 ?_;refine' tkL 18 ?_;refine' tkL 19 ?_;refine' tkL 20 ?_;refine' tkL 21 ?_;refine' tkL 22 ?_;refine' tkL 23 ?_;refine' tkL 24 ?_;refine' tkL 25 ?_;refine' tkL 26 ?_;refine' tkR 27 (v:=.bool false) rfl (Or.inr ⟨by rfl,140,_, ?hx27_2197, ?hy27_2197⟩) ?rest27_2197
         case hx27_2197=>(intro w hSw;go_simp;try with_reducible rfl)
         case hy27_2197=>exact fun w hE=>(KID.out _ hE).mono (fun _ _ h=>⟨h.1,h.2,Ext.trans hE h.2⟩)
         refine layy ?_;refine' tkL 28 ?_;refine' tkL 29 ?_;refine wpAnyR_done (by kernel_rfl) ?_ _;intro x1 _ Ex1;clear pr81a pr81b pr81c;have E3:=hZ (E2.out.trans Ex1);have R3:=hZ (R2.out.ext Ex1)
         go_wp2_with fail
         go_roundg (m-(j+1))
         case measure=>omega
         case rel=>exact ⟨j+1,Y2,p3,c3,by omega,Nat.le_refl _,hy2,rfl,by go_num,S2,F2,R3,E3⟩
      have:j=m:=by omega
      subst this;have tk:decide ((j:Int) < (j:Int))=false:=dF
      go_wp2_with fail
      go_roundg (2 * (j-yl))
      case measure=>omega
      case rel=>exact ⟨Y2,(yl:Int),p3,c3,by omega,fun q=>by omega,by omega,rfl,rfl,hZ (fun e=>SH.out (by omega)),F2,R2,E2⟩
   have tk:decide (k < (yl:Int))=false:=decide_eq_false hkl;have FIN:=hZ (F.out.fin HW.out HT.out (by rw [EM.out];exact SH.out (by rw [EY.out];omega)))
   go_wp2_with fail
   go_returns;exact ⟨Y,p2,cp2,w1.heap.size,by rw [EY.out];rfl,E1.out.le,R.out,E1.out.trans E.out,FIN.out.1,FIN.out.2⟩
def sumK:List Hp.Tl->Nat
 | []=>0
 | t :: r=>t.k+sumK r
def maxK:Nat->List Hp.Tl->Nat
 | m,[]=>m
 | m,t :: r=>maxK (max m t.k) r
theorem sumK_snoc (t:Hp.Tl):∀ P:List Hp.Tl,sumK (P ++ [t])=sumK P+t.k
 | []=>by simp [sumK]
 | u :: r=>by simp only [List.cons_append,sumK,sumK_snoc t r];omega
theorem maxK_snoc (t:Hp.Tl):∀ (P:List Hp.Tl) (m:Nat),maxK m (P ++ [t])=max (maxK m P) t.k
 | [],m=>rfl
 | u :: r,m=>by simp only [List.cons_append,maxK,maxK_snoc t r]
theorem sumK_free:∀ L:List Hp.Tl,sumK (Hp.freeOf L)=Hp.freeSum L
 | []=>rfl
 | t :: r=>by
  have ih:=sumK_free r;unfold Hp.freeOf at ih ⊢;unfold Hp.freeSum
  cases hf:t.fr with
  | true=>simp only [List.filter,hf,sumK,if_true];omega
  | false=>simp only [List.filter,hf,Bool.false_eq_true,if_false];omega
theorem maxK_free:∀ (L:List Hp.Tl) (m:Nat),maxK m (Hp.freeOf L)=Hp.freeMax m L
 | [],m=>rfl
 | t :: r,m=>by
  have ih:=maxK_free r;unfold Hp.freeOf at ih ⊢;unfold Hp.freeMax
  cases hf:t.fr with
  | true=>simp only [List.filter,hf,maxK,if_true];exact ih _
  | false=>simp only [List.filter,hf,Bool.false_eq_true,if_false];exact ih _
theorem sumK_le:∀ {P Q:List Hp.Tl},sumK P<=sumK (P ++ Q)
 | [],_=>Nat.zero_le _
 | t :: P,Q=>by
  have:=sumK_le (P:=P) (Q:=Q);simp only [List.cons_append,sumK];omega
theorem maxK_le:∀ {P:List Hp.Tl} {m:Nat},maxK m P<=m+sumK P
 | [],_=>Nat.le_add_right _ _
 | t :: P,m=>by
  have:=maxK_le (P:=P) (m:=max m t.k);simp only [maxK,sumK];omega
structure St4 (w W:World) (gr gq:Nat) (a b c d:Int):Prop where
 ext:Ext w W
 s0:W.cell? ⟨gq,0,none⟩=some (.int .i64 a)
 s1:W.cell? ⟨gq,1,none⟩=some (.int .i64 b)
 s2:W.cell? ⟨gq,2,none⟩=some (.int .i64 c)
 s3:W.cell? ⟨gq,3,none⟩=some (.int .i64 d)
 fz:∀ o,W.frozen? ⟨gq,o,none⟩=false
 q0:W.cell? ⟨gr,0,none⟩=some (.int .i64 0)
 q1:W.cell? ⟨gr,1,none⟩=some (.int .i64 0)
 q2:W.cell? ⟨gr,2,none⟩=some (.int .i64 0)
 q3:W.cell? ⟨gr,3,none⟩=some (.int .i64 0)
 qz:∀ o,W.frozen? ⟨gr,o,none⟩=false
 ge:w.heap.size<=gr/\w.heap.size<=gq/\gr ≠ gq
theorem St4.ext' {W:World} {gr gq:Nat} {a b c d:Int} (h:St4 w W gr gq a b c d) (e:Ext W W'):St4 w W' gr gq a b c d:=
 ⟨h.ext.trans e,(e.cell (cell_lt h.s0) 0).trans h.s0,(e.cell (cell_lt h.s0) 1).trans h.s1,(e.cell (cell_lt h.s0) 2).trans h.s2,(e.cell (cell_lt h.s0) 3).trans h.s3,fun o=>(e.frozen (cell_lt h.s0) o).trans (h.fz o),
  (e.cell (cell_lt h.q0) 0).trans h.q0,(e.cell (cell_lt h.q0) 1).trans h.q1,(e.cell (cell_lt h.q0) 2).trans h.q2,(e.cell (cell_lt h.q0) 3).trans h.q3,fun o=>(e.frozen (cell_lt h.q0) o).trans (h.qz o),h.ge⟩
theorem St4.set2 {W:World} {gr gq:Nat} {a b c d:Int} (h:St4 w W gr gq a b c d):St4 w (W.setCell ⟨gq,2,none⟩ (.int .i64 x)) gr gq a b x d:=by
 obtain ⟨e,s0,s1,s2,s3,fz,q0,q1,q2,q3,qz,g1,g2,g3⟩:=h
 exact ⟨Ext.setCell e g2 _,by simp [go_sem,s0],by simp [go_sem,s1],by simp [go_sem,s2],by simp [go_sem,s3],fun o=>by simp [go_sem,fz],
  by simp [go_sem,q0,g3.symm],by simp [go_sem,q1,g3.symm],by simp [go_sem,q2,g3.symm],by simp [go_sem,q3,g3.symm],fun o=>by simp [go_sem,qz],g1,g2,g3⟩
theorem St4.set3 {W:World} {gr gq:Nat} {a b c d:Int} (h:St4 w W gr gq a b c d):St4 w (W.setCell ⟨gq,3,none⟩ (.int .i64 x)) gr gq a b c x:=by
 obtain ⟨e,s0,s1,s2,s3,fz,q0,q1,q2,q3,qz,g1,g2,g3⟩:=h
 exact ⟨Ext.setCell e g2 _,by simp [go_sem,s0],by simp [go_sem,s1],by simp [go_sem,s2],by simp [go_sem,s3],fun o=>by simp [go_sem,fz],
  by simp [go_sem,q0,g3.symm],by simp [go_sem,q1,g3.symm],by simp [go_sem,q2,g3.symm],by simp [go_sem,q3,g3.symm],fun o=>by simp [go_sem,qz],g1,g2,g3⟩
theorem res4 {W:World} {a b c d x0 x1 x2 x3:Value} (q0:W.cell? ⟨g,0,none⟩=some x0) (q1:W.cell? ⟨g,1,none⟩=some x1) (q2:W.cell? ⟨g,2,none⟩=some x2) (q3:W.cell? ⟨g,3,none⟩=some x3) :
    ((((W.setCell ⟨g,0,none⟩ a).setCell ⟨g,1,none⟩ b).setCell ⟨g,2,none⟩ c).setCell ⟨g,3,none⟩ d).cell? ⟨g,0,none⟩=some a/\((((W.setCell ⟨g,0,none⟩ a).setCell ⟨g,1,none⟩ b).setCell ⟨g,2,none⟩ c).setCell ⟨g,3,none⟩ d).cell? ⟨g,1,none⟩=some b /\
     ((((W.setCell ⟨g,0,none⟩ a).setCell ⟨g,1,none⟩ b).setCell ⟨g,2,none⟩ c).setCell ⟨g,3,none⟩ d).cell? ⟨g,2,none⟩=some c/\((((W.setCell ⟨g,0,none⟩ a).setCell ⟨g,1,none⟩ b).setCell ⟨g,2,none⟩ c).setCell ⟨g,3,none⟩ d).cell? ⟨g,3,none⟩=some d:=
  ⟨by simp [go_sem,q0],by simp [go_sem,q1],by simp [go_sem,q2],by simp [go_sem,q3]⟩
set_option maxRecDepth 100000 in
set_option maxHeartbeats 8000000 in
theorem rStats {ch:Nat->List Nat} (h:RAt w r S) (hw:Hp.Wf S B L ch) (hT:S.live=some T) :
    Calls Tryz.prog 25 #[.pointer (some ⟨r.rb,0,none⟩)] w fun e w'=>e = .returned (.agg #[.int .i64 S.taken.length,.int .i64 T.length,.int .i64 (Hp.freeSum L),.int .i64 (Hp.freeMax 0 L)])/\Ext w w':=by
  have CELLS:=hZ (fun W (hW:Ext w W)=>rCells_ (h.ext hW) hw);have LIVE:=hZ (fun W (hW:Ext w W)=>rLive (h.ext hW) hw hT);have FREE:=hZ (fun W (hW:Ext w W)=>rFree (h.ext hW) hw.fr.toFr hw.hi hw.parts);rw [pick_free] at FREE;rw [<- sumK_free,<- maxK_free];have FF:=hZ hw.parts.frees;have lln:=Hp.lay_len_ hw.parts.lay;have fl:(Hp.freeOf L).length<=L.length:=List.length_filter_le _ _;have hsum:sumK (Hp.freeOf L)<=100000:=by
   rw [sumK_free];have:=hw.all_;have:=hw.hi;omega
  have hi:=hw.hi;have H:=hZ h;have hle:=h.words.le;have hcap:=h.words.cap;have hlt:=h.lt;have c2:=h.c2;obtain ⟨gbb,o',hp',hbb,_⟩:=h.words.cells (by have:=hw.lo;omega)
  cases hp'
  obtain ⟨n,hn⟩:∃ n,S.words.length=n:=⟨_,rfl⟩
  have EN:=hZ hn;rw [hn] at hi lln hle c2 FF;obtain ⟨F,hF⟩:∃ F,Hp.freeOf L=F:=⟨_,rfl⟩
  rw [hF] at FREE FF fl hsum ⊢;have HSUM:=hZ hsum;obtain ⟨m,hm⟩:∃ m,F.length=m:=⟨_,rfl⟩
  have EM:=hZ hm;rw [hm] at fl;obtain ⟨nt,hnt⟩:∃ n,S.taken.length=n:=⟨_,rfl⟩
  have ENT:=hZ hnt;rw [hnt];clear h hw hF hn hm hnt hsum hT;go_enter Tryz.func25,Tryz.ntmps25
  go_upto_region 2 with (first
   | (go_at_call 82;refine (CELLS.out _ (exx)).mono ?_;rintro e w1 ⟨p,c,rfl,hR,hE⟩;rw [cellsI_len,ENT.out];have E1:=hZ (show Ext w w1 from exx);clear hR)
   | (go_at_call 83;refine (LIVE.out _ E1.out).mono ?_;rintro e w2 ⟨Y,p2,c2',b0,rfl,-,-,hE2,-,hYl⟩;rw [hYl]))
  have E2:=hZ (E1.out.trans hE2);have zl:w.heap.size < (w.alloc (.cells #[.int .i64 0,.int .i64 0,.int .i64 0,.int .i64 0] 37)).heap.size:=by simp
  have E02:=hE.trans hE2;have z0:w2.cell? ⟨w.heap.size,0,none⟩=some (.int .i64 0):=(E02.cell zl 0).trans (by go_simp);have z1:w2.cell? ⟨w.heap.size,1,none⟩=some (.int .i64 0):=(E02.cell zl 1).trans (by go_simp);have z2:w2.cell? ⟨w.heap.size,2,none⟩=some (.int .i64 0):=(E02.cell zl 2).trans (by go_simp);have z3:w2.cell? ⟨w.heap.size,3,none⟩=some (.int .i64 0):=(E02.cell zl 3).trans (by go_simp);have zf:∀ o,w2.frozen? ⟨w.heap.size,o,none⟩=false:=fun o=>(E02.frozen zl o).trans (by go_simp)
  have zlt:=cell_lt z0;refine cut_world (F:=fun W=>Hid (St4 w W w.heap.size w2.heap.size nt T.length 0 0)) (hZ ⟨exx,by go_simp,by go_simp,by go_simp,by go_simp,fun o=>by go_simp,by go_simp,by go_simp,by go_simp,by go_simp,fun o=>by go_simp,Nat.le_refl _,by omega,by omega⟩) ?_;intro w3 I0;clear z0 z1 z2 z3 zf zlt zl E02 hE hE2 E1 E2;generalize w2.heap.size=gq at *;obtain ⟨gr,hgr⟩:∃ g,w.heap.size=g:=⟨_,rfl⟩
  rw [hgr] at I0 ⊢;have HGR:=hZ hgr;clear hgr
  go_wp2_with (go_at_call 84;refine (FREE.out _ I0.out.ext).mono ?_;rintro e w4 ⟨p,c,rfl,hR,hE⟩;rw [List.length_map,EM.out];have RR:=hZ hR.at_;have PF:=hZ (fun b o (e:p=some ⟨b,o,none⟩)=>hR.far e);have GQ3:gq < w3.heap.size:=cell_lt I0.out.s0;have I1:=hZ (I0.out.ext' hE))
  clear hR hE FREE I0;have lle:=RR.out.le;have lcap:=RR.out.cap;rw [List.length_map,EM.out] at lle
  go_loopg [5] m (fun g i wr=>∃ (j:Nat),j<=m/\m-j<=g/\i = .int .i64 j/\Hid (SliceAt wr p c (F.map fun t=>(t.a:Int)))/\Hid (St4 w wr gr gq nt T.length (sumK (F.take j)) (maxK 0 (F.take j))))
  case atStart=>exact ⟨0,Nat.zero_le _,by omega,rfl,RR,hZ (by simpa [sumK,maxK] using I1.out)⟩
  case round=>
   obtain ⟨j,hj,hg,rfl,RJ,IJ⟩:=hrel;clear RR I1;have EW:=hZ IJ.out.ext
   by_cases hlt2:j < m
   . obtain ⟨t,ht⟩:∃ t,F[j]? = some t:=⟨F[j]'(by rw [EM.out];exact hlt2),List.getElem?_eq_getElem (by rw [EM.out];exact hlt2)⟩
     have hrd:Hp.rd (F.map fun t=>(t.a:Int)) j=some (t.a:Int):=by
      unfold Hp.rd;rw [List.getElem?_map,ht];rfl
     obtain ⟨lb,lo',hlp,hlbb,hlc⟩:=RJ.out.cells (by rw [List.length_map,EM.out];omega);have gl:=hlc j _ hrd;obtain ⟨p1,p2,p3,p4,p5,p6⟩:=FF.out.part t (List.mem_of_getElem? ht);have c2w:=(EW.out.cell hlt 2).trans c2;have gk:=(H.out.ext EW.out).get (j:=t.a+1) (by rw [EN.out];omega);rw [p5] at gk;have zb:r.rb < wr.heap.size:=Nat.lt_of_lt_of_le hlt EW.out.le;have zg:r.gb < wr.heap.size:=Nat.lt_of_lt_of_le hbb EW.out.le;have tk:decide ((j:Int) < (m:Int))=true:=dT;have htk:F.take (j+1)=F.take j ++ [t]:=by
      rw [List.take_add_one,ht];rfl
     have e1:sumK (F.take (j+1))=sumK (F.take j)+t.k:=by rw [htk,sumK_snoc]
     have e2:maxK 0 (F.take (j+1))=max (maxK 0 (F.take j)) t.k:=by rw [htk,maxK_snoc]
     have hs1:sumK (F.take (j+1))<=100000:=by
      have h1:=sumK_le (P:=F.take (j+1)) (Q:=F.drop (j+1));rw [List.take_append_drop] at h1;have:=HSUM.out;omega
     have hs2:=maxK_le (P:=F.take j) (m:=0);obtain ⟨sa,hsa⟩:∃ a,sumK (F.take j)=a:=⟨_,rfl⟩
     obtain ⟨sb,hsb⟩:∃ a,maxK 0 (F.take j)=a:=⟨_,rfl⟩
     rw [hsa] at e1 hs2 IJ;rw [hsb] at e2 hs2 IJ;have HEQ:=hZ (And.intro e1 e2);rw [e1] at hs1;have s1:IntKind.i64.wrap ((t.a:Int)+1)=(t.a:Int)+1:=IntWalk.i64_in _ (by omega);have s2:(0:Int)<=(t.a:Int)+1:=by omega
     have s3:(t.a:Int)+1 < (n:Int):=by omega
     have s4:((t.a:Int)+1).toNat=t.a+1:=by omega
     have s5:IntKind.i64.wrap ((sa:Int)+(t.k:Int))=(sa:Int)+(t.k:Int):=IntWalk.i64_in _ (by omega);have q2:(j:Int) < (m:Int):=by omega
     obtain ⟨_,b0,b1,b2,b3,bz,r0,r1,r2,r3,rz,g1,g2,g3⟩:=id IJ.out;have zq:=cell_lt b0;clear hrd hlc ht p4 p5 p6 htk e1 e2 hsa hsb r0 r1 r2 r3 rz;subst hlp;go_upto_region 6 with (fail)
     refine wp_region_any (by kernel_rfl) ?_;have pr82a:=fun u_ (h_:Ext wr u_)=>(h_.cell zb 2).trans c2w
     have pr82b:=fun u_ (h_:Ext wr u_)=>(h_.cell hlbb (lo'+j)).trans gl
     have pr82c:=fun u_ (h_:Ext wr u_)=>(h_.cell zg (r.go+(t.a+1))).trans gk
     have pr82d:=fun u_ (h_:Ext wr u_)=>(h_.cell zq 2).trans b2
     refine wpAny_to_X (S:=fun W=>Ext wr W) (R:=Ext) 15 15 Ext.refl ?_ ?_ (by rfl)
     . exact Ext.drew exx
     refine' tkY 0 ?_;refine' tkY 1 ?_;refine' tkY 2 ?_;refine' tkY 3 ?_;refine' tkY 4 ?_;refine' tkY 5 ?_;refine' tkY 6 ?_;refine' tkY 7 ?_;refine' tkY 8 ?_;refine' tkY 9 ?_;refine' tkY 10 ?_;refine' tkY 11 ?_;refine' tkY 12 ?_;refine' tkY 13 ?_;refine' tkY 14 ?_;refine wpAnyX_done (by kernel_rfl) ?_;intro x1 _ Ex1;clear pr82a pr82b pr82c pr82d;simp only [List.drop_succ_cons,List.drop_zero];have I2:=hZ (IJ.out.ext' Ex1);have R2:=hZ (RJ.out.ext Ex1);obtain ⟨_,b0,b1,b2,b3,bz,r0,r1,r2,r3,rz,g1,g2,g3⟩:=id I2.out;clear r0 r1 r2 r3 rz b0 b1;have bz2:=bz 2;have lbq:lb ≠ gq:=by have:=PF.out lb lo' rfl;omega
     have rbq:r.rb ≠ gq:=by omega
     have rgq:r.gb ≠ gq:=by omega
     go_upto_region 7 with (fail)
     have k3:But [gq] x1 (x1.setCell ⟨gq,2,none⟩ (.int .i64 ((sa:Int)+(t.k:Int)))):=(But.refl _ _).setCell (.inl (by simp)) _;refine cut_world (F:=fun W=>Hid (St4 w W gr gq nt T.length ((sa:Int)+(t.k:Int)) sb)/\Hid (SliceAt W (some ⟨lb,lo',none⟩) c (F.map fun t=>(t.a:Int)))/\(W.cell? ⟨r.rb,2,none⟩=some (.slice (some ⟨r.gb,r.go,none⟩) n r.wc)/\W.cell? ⟨lb,lo'+j,none⟩=some (.int .i64 t.a)/\W.cell? ⟨r.gb,r.go+(t.a+1),none⟩=some (.int .i64 t.k))) ⟨hZ I2.out.set2,hZ (R2.out.but k3 (fun b o e hm=>by cases e;exact lbq (List.mem_singleton.1 hm))),⟨(k3.cell (Nat.lt_of_lt_of_le zb Ex1.le) (by simpa using rbq) 2).trans ((Ex1.cell zb 2).trans c2w),(k3.cell (Nat.lt_of_lt_of_le hlbb Ex1.le) (by simpa using lbq) _).trans ((Ex1.cell hlbb _).trans gl),(k3.cell (Nat.lt_of_lt_of_le zg Ex1.le) (by simpa using rgq) _).trans ((Ex1.cell zg _).trans gk)⟩⟩ ?_;clear b2 b3 bz bz2 k3 c2w gl gk;rintro x2 ⟨I3,R3,c22,gl2,gk2⟩;obtain ⟨_,b0,b1,b2,b3,bz,r0,r1,r2,r3,rz,g1,g2,g3⟩:=id I3.out;clear r0 r1 r2 r3 rz b0 b1;have z1x:=cell_lt c22;have z2x:=cell_lt gl2;have z3x:=cell_lt gk2;have zqx:=cell_lt b3;refine wp_region_any (by kernel_rfl) ?_;have pr83a:=fun u_ (h_:Ext x2 u_)=>(h_.cell z1x 2).trans c22
     have pr83b:=fun u_ (h_:Ext x2 u_)=>(h_.cell z2x (lo'+j)).trans gl2
     have pr83c:=fun u_ (h_:Ext x2 u_)=>(h_.cell z3x (r.go+(t.a+1))).trans gk2
     have pr83d:=fun u_ (h_:Ext x2 u_)=>(h_.cell zqx 3).trans b3
     refine wpAny_to_X (S:=fun W=>Ext x2 W) (R:=Ext) 15 15 Ext.refl ?_ ?_ (by rfl)
     . exact Ext.drew exx
     refine' tkY 0 ?_;refine' tkY 1 ?_;refine' tkY 2 ?_;refine' tkY 3 ?_;refine' tkY 4 ?_;refine' tkY 5 ?_;refine' tkY 6 ?_;refine' tkY 7 ?_;refine' tkY 8 ?_;refine' tkY 9 ?_;refine' tkY 10 ?_;refine' tkY 11 ?_;refine' tkY 12 ?_;refine' tkY 13 ?_;refine' tkY 14 ?_;refine wpAnyX_done (by kernel_rfl) ?_;intro x4 _ Ex4;clear pr83a pr83b pr83c pr83d;simp only [List.drop_succ_cons,List.drop_zero];have I4:=hZ (I3.out.ext' Ex4);have R4:=hZ (R3.out.ext Ex4);clear b2 b3 bz c22 gl2 gk2;obtain ⟨_,b0,b1,b2,b3,bz,r0,r1,r2,r3,rz,g1,g2,g3⟩:=id I4.out;clear r0 r1 r2 r3 rz b0 b1;have bz3:=bz 3;have em:max (sb:Int) (t.k:Int)=((max sb t.k:Nat):Int):=by omega
     have k4:But [gq] x4 (x4.setCell ⟨gq,3,none⟩ (.int .i64 ((max sb t.k:Nat):Int))):=(But.refl _ _).setCell (.inl (by simp)) _;have I5:=hZ (I4.out.set3 (x:=((max sb t.k:Nat):Int)));have R5:=hZ (R4.out.but k4 (fun b o e hm=>by cases e;exact lbq (List.mem_singleton.1 hm)))
     go_wp2_with fail
     go_roundg (m-(j+1))
     case measure=>omega
     case rel=>exact ⟨j+1,by omega,Nat.le_refl _,by go_num,R5,hZ (by rw [HEQ.out.1,HEQ.out.2];simpa using I5.out)⟩
   have:j=m:=by omega
   subst this;have tk:decide ((j:Int) < (j:Int))=false:=dF;have I9:=IJ.out;rw [<- EM.out,List.take_length] at I9;have IH:=hZ I9;obtain ⟨e9,b0,b1,b2,b3,bz,r0,r1,r2,r3,rz,g1,g2,g3⟩:=id I9;clear I9;obtain ⟨f0,f1,f2,f3⟩:=res4 (a:=.int .i64 nt) (b:=.int .i64 T.length) (c:=.int .i64 (sumK F)) (d:=.int .i64 (maxK 0 F)) r0 r1 r2 r3
   go_wp2_with fail
   refine bodyPost_ret (v:=.agg #[.int .i64 nt,.int .i64 T.length,.int .i64 (sumK F),.int .i64 (maxK 0 F)]) (by simp [results,Tryz.results25,go_sem, *]) rfl ?_;refine ⟨rfl, ?_⟩;exact Ext.setCell (Ext.setCell (Ext.setCell (Ext.setCell e9 g1 _) g1 _) g1 _) g1 _
set_option maxRecDepth 100000 in
theorem eq_arr4 (a b c d:Int) (u:World):Sem.run Tryz.prog (Op.equalIn 10000 37 (.agg #[.int .i64 a,.int .i64 b,.int .i64 c,.int .i64 d]) (.agg #[.int .i64 a,.int .i64 b,.int .i64 c,.int .i64 d])) u = .ok true u:=by
 obtain ⟨i,hi⟩:∃ i,Tryz.prog.info? 3=some i:=Option.isSome_iff_exists.1 (by kernel_rfl)
 rw [show (10000:Nat)=9999+1 from rfl]
 rw [run_equalIn_array (P:=Tryz.prog) u 9999 (t:=37) (e:=3) (n:=4) (i:=i) _ _ (by kernel_rfl) hi]
 rw [show Tryz.prog.cellsOf 3=1 from by kernel_rfl]
 rw [show List.range 4=[0,1,2,3] from rfl]
 simp only [Op.eqItems]
 go_simp
def LAtIs (S:Hp.Hs) (x bv:Int) (bks:List Int) (vf vn ie:Int):Prop:=∀ (w:World) (d:Hd),HAt w d S->Calls Tryz.prog 22 #[.pointer (some ⟨d.hb,0,none⟩),.int .i64 x] w fun e w'=>∃ p c,e = .returned (.tuple #[.agg #[.int .i64 bv,.slice p bks.length c],.agg #[.int .u8 vf,.int .i64 vn],.int .i64 ie])/\SliceAt w' p c bks/\Ext w w'
def LDiagIs (S:Hp.Hs) (x:Int) (zz oo:List Int) (E:List (Int × Int)) (N:List (Int × List Int)) (rt ie:Int):Prop:=∀ (w:World) (d:Hd),HAt w d S->Calls Tryz.prog 23 #[.pointer (some ⟨d.hb,0,none⟩),.int .i64 x] w fun e w'=>∃ Lg:DgL,e = .returned (.tuple #[dgV Lg zz.length oo.length E.length N.length rt,.int .i64 ie])/\DgRd w' Lg zz oo E N/\Ext w w'
def RAtIs (S:Hp.Hs) (x bv:Int) (bks:List Int) (vf vn:Int):Prop:=∀ (w:World) (r:Rd),RAt w r S->Calls Tryz.prog 28 #[.pointer (some ⟨r.rb,0,none⟩),.int .i64 x] w fun e w'=>∃ p c,e = .returned (.tuple #[.agg #[.int .i64 bv,.slice p bks.length c],.agg #[.int .u8 vf,.int .i64 vn]])/\SliceAt w' p c bks/\Ext w w'
def RDiagIs (S:Hp.Hs) (x:Int) (zz oo:List Int) (E:List (Int × Int)) (N:List (Int × List Int)) (rt:Int):Prop:=∀ (w:World) (r:Rd),RAt w r S->(r.sp=none->r.sc=0)->(r.op=none->r.oc=0)->Calls Tryz.prog 29 #[.pointer (some ⟨r.rb,0,none⟩),.int .i64 x] w fun e w'=>∃ Lg:DgL,e = .returned (dgV Lg zz.length oo.length E.length N.length rt)/\DgRd w' Lg zz oo E N/\Ext w w'
set_option maxRecDepth 100000 in
set_option maxHeartbeats 32000000 in
theorem loads_main {pa pw:Option Addr} {ca cw:Nat} {n:Int} {ch:Nat->List Nat} {bv vf vn ie rt:Int} {bks zz oo:List Int} {E:List (Int × Int)} {N:List (Int × List Int)} {b:Bool} (h:SAt w sp sc op oc pa ca z o acts) (hW:SliceAt w pw cw W) (hWn:pw=none->cw=0) (ht:Hp.thinB z o n acts=true) (hl:W.length<=400) (hx : -9223372036854775808<=x/\x<=9223372036854775807)
    (hw:Hp.Wf ⟨z,o,W,Hp.adsOf L⟩ 9223372036854775807 L ch) (he:Hp.newErr z o W.length=0) (hT:Hp.Hs.live ⟨z,o,W,Hp.adsOf L⟩=some T) (hA:LAtIs ⟨z,o,W,Hp.adsOf L⟩ x bv bks vf vn ie) (hD:LDiagIs ⟨z,o,W,Hp.adsOf L⟩ x zz oo E N rt ie) (hb:(cellsI ⟨z,o,W,Hp.adsOf L⟩).contains x=b)
    (htail:(b=false/\bv=0/\bks=[]/\vf=0/\vn=0/\ie=7/\zz=[]/\oo=[]/\E=[]/\N=[]/\rt=0) \/ (b=true/\ie=0/\RAtIs ⟨z,o,W,Hp.adsOf L⟩ x bv bks vf vn/\RDiagIs ⟨z,o,W,Hp.adsOf L⟩ x zz oo E N rt)) :
    Calls Tryz.prog 3 #[.agg #[.slice sp z.length sc,.slice op o.length oc,.int .i64 n,.slice pa acts.length ca],.slice pw W.length cw,.int .i64 x] w fun e w'=>e = .returned (.bool true)/\Ext w w':=by
  have E0:Ext w (w.alloc (.cells #[.slice sp z.length sc,.slice op o.length oc,.int .i64 n,.slice pa acts.length ca] 25)):=Ext.alloc (Ext.refl _) _;have TH:=hZ (lThin (n:=n) (h.ext E0));rw [ht] at TH;have H:=hZ h;have HW:=hZ hW;have HWN:=hZ hWn;have HWF:=hZ hw;have HEE:=hZ he;have HAI:=hZ hA;have HDI:=hZ hD;have HTL:=hZ hT;have HB:=hZ hb;have HTAIL:=hZ htail;have HXB:=hZ hx;have HE0:=hZ E0;obtain ⟨zl,ol⟩:=Hp.thin_lens ht;have BX:=hZ (show ((w.alloc (.cells #[.slice sp z.length sc,.slice op o.length oc,.int .i64 n,.slice pa acts.length ca] 25)).cell? ⟨w.heap.size,0,none⟩=some (.slice sp z.length sc)/\(w.alloc (.cells #[.slice sp z.length sc,.slice op o.length oc,.int .i64 n,.slice pa acts.length ca] 25)).cell? ⟨w.heap.size,1,none⟩=some (.slice op o.length oc))/\(w.alloc (.cells #[.slice sp z.length sc,.slice op o.length oc,.int .i64 n,.slice pa acts.length ca] 25)).cell? ⟨w.heap.size,2,none⟩=some (.int .i64 n)/\(w.alloc (.cells #[.slice sp z.length sc,.slice op o.length oc,.int .i64 n,.slice pa acts.length ca] 25)).cell? ⟨w.heap.size,3,none⟩=some (.slice pa acts.length ca) from ⟨⟨by go_simp,by go_simp⟩,by go_simp,by go_simp⟩);have q0:decide ((W.length:Int) > 400)=false:=dF;have q1:decide (400 < (W.length:Int))=false:=dF;have q2:decide (400 < W.length)=false:=dF;clear h hW hWn ht hw he hA hD hT hb htail hx E0;have mixed:Tryz.prog.follows .mixedOrders=true:=by kernel_rfl
  go_enter Tryz.func3,Tryz.ntmps3
  go_wp2_with fail
  generalize (w.alloc (.cells #[.slice sp z.length sc,.slice op o.length oc,.int .i64 n,.slice pa acts.length ca] 25))=w0 at HE0 BX TH ⊢;generalize w.heap.size=gb at BX ⊢;obtain ⟨⟨c0,c1⟩,c2,c3⟩:=BX.out;have z0:=cell_lt c0;go_upto_region 3 with (go_at_call 14;refine TH.out.mono ?_;rintro e w1 ⟨rfl,hE1⟩)
  have b0:=(hE1.cell z0 0).trans c0;have b1:=(hE1.cell z0 1).trans c1;have B1:=hZ (And.intro b0 b1);have HE1:=hZ (HE0.out.trans hE1);clear c0 c1 c2 c3 z0 BX HE0 TH hE1 b0 b1;refine wp_region_seq (S:=fun W=>Ext w1 W) (R:=Eq) (by kernel_rfl) (fun _=>rfl) (Ext.drew (Ext.refl w1)) ?_;have E2:=hZ (show Ext w1 w1.drew from Ext.drew (Ext.refl w1));generalize w1.drew=w2 at *;refine' wpAnyR_take (i:=0) (v:=?v0_2242) (fun _=>rfl) (fun _ _ _ h k=>h.trans k) rfl (by kernel_rfl) (by kernel_rfl) (by kernel_rfl) (fun _ _ _ h=>h) (Or.inl (Or.inl ⟨by rfl, ?hy0_2242⟩)) ?rest0_2242
  case hy0_2242=>(intro w hSw;(obtain ⟨b0,b1⟩:=B1.out;have k0:=(hSw.cell (cell_lt b0) 0).trans b0;have k1:=(hSw.cell (cell_lt b1) 1).trans b1);go_simp;try with_reducible rfl)
  refine layy ?_;refine' wpAnyR_take (i:=1) (v:=?v1_2243) (fun _=>rfl) (fun _ _ _ h k=>h.trans k) rfl (by kernel_rfl) (by kernel_rfl) (by kernel_rfl) (fun _ _ _ h=>h) (Or.inl (Or.inl ⟨by rfl, ?hy1_2243⟩)) ?rest1_2243
  case hy1_2243=>(intro w hSw;(obtain ⟨b0,b1⟩:=B1.out;have k0:=(hSw.cell (cell_lt b0) 0).trans b0;have k1:=(hSw.cell (cell_lt b1) 1).trans b1);go_simp;try with_reducible rfl)
  refine layy ?_;refine' wpAnyR_take (i:=3) (v:=?v3_2244) (fun _=>rfl) (fun _ _ _ h k=>h.trans k) rfl (by kernel_rfl) (by kernel_rfl) (by kernel_rfl) (fun _ _ _ h=>h) (Or.inl (Or.inl ⟨by rfl, ?hy3_2244⟩)) ?rest3_2244
  case hy3_2244=>(intro w hSw;(obtain ⟨b0,b1⟩:=B1.out;have k0:=(hSw.cell (cell_lt b0) 0).trans b0;have k1:=(hSw.cell (cell_lt b1) 1).trans b1);go_simp;try with_reducible rfl)
  refine layy ?_;refine' wpAnyR_take (i:=4) (v:=?v4_2245) (fun _=>rfl) (fun _ _ _ h k=>h.trans k) rfl (by kernel_rfl) (by kernel_rfl) (by kernel_rfl) (fun _ _ _ h=>h) (Or.inl (Or.inl ⟨by rfl, ?hy4_2245⟩)) ?rest4_2245
  case hy4_2245=>(intro w hSw;(obtain ⟨b0,b1⟩:=B1.out;have k0:=(hSw.cell (cell_lt b0) 0).trans b0;have k1:=(hSw.cell (cell_lt b1) 1).trans b1);go_simp;try with_reducible rfl)
  refine layy ?_;refine' wpAnyR_take (i:=6) (v:=?v6_2246) (fun _=>rfl) (fun _ _ _ h k=>h.trans k) rfl (by kernel_rfl) (by kernel_rfl) (by kernel_rfl) (fun _ _ _ h=>h) (Or.inl (Or.inl ⟨by rfl, ?hy6_2246⟩)) ?rest6_2246
  case hy6_2246=>(intro w hSw;(obtain ⟨b0,b1⟩:=B1.out;have k0:=(hSw.cell (cell_lt b0) 0).trans b0;have k1:=(hSw.cell (cell_lt b1) 1).trans b1);go_simp;try with_reducible rfl)
  refine layy ?_;refine wpAnyE_call 2 (f:=17) (args:=#[.slice sp z.length sc]) rfl (by kernel_rfl) (by rfl) ?run2 ?call2
  case run2=>go_simp
  refine (ints_any ((H.out.sizes.ext HE1.out).ext E2.out) H.out.n1 (by omega)).mono ?_;rintro e w3 ⟨p1,k1,rfl,R1,hE3,hk1⟩;have E3:=hZ (E2.out.trans hE3);have S1:=hZ (And.intro R1.at_ hk1);refine ⟨_,rfl,E3.out, ?_⟩;refine layy ?_;refine wpAnyE_call 5 (f:=17) (args:=#[.slice op o.length oc]) rfl (by kernel_rfl) (by rfl) ?run5 ?call5
  case run5=>go_simp
  refine (ints_any ((H.out.order.ext HE1.out).ext E3.out) H.out.n2 (by omega)).mono ?_;rintro e w4 ⟨p2,k2,rfl,R2,hE4,hk2⟩;have E4:=hZ (E3.out.trans hE4);have S2:=hZ (And.intro R2.at_ hk2);have S14:=hZ (S1.out.1.ext hE4);refine ⟨_,rfl,E4.out, ?_⟩;refine layy ?_;refine wpAnyE_call 7 (f:=17) (args:=#[.slice pw W.length cw]) rfl (by kernel_rfl) (by rfl) ?run7 ?call7
  case run7=>go_simp
  refine (ints_any ((HW.out.ext HE1.out).ext E4.out) HWN.out (by omega)).mono ?_;rintro e w5 ⟨p3,k3,rfl,R3,hE5,hk3⟩;have E5:=hZ (E4.out.trans hE5);have S3:=hZ (And.intro R3.at_ hk3);have S15:=hZ (S14.out.ext hE5);have S25:=hZ (S2.out.1.ext hE5);refine ⟨_,rfl,E5.out, ?_⟩;refine layy ?_;have hlo:=HWF.out.lo;obtain ⟨g3,rfl⟩:∃ g,p3=some ⟨g,0,none⟩:=by
   rcases R3.1.2 with ⟨e,_⟩ | ⟨g,_,_,e,_⟩
   . injection e with e1 e2
     have hlo':20<=W.length:=hlo;omega
   injection e with e1
   exact ⟨g,e1⟩
  refine wpAnyE_call 8 (f:=16) (args:=#[.slice p1 z.length k1,.slice p2 o.length k2,.slice (some ⟨g3,0,none⟩) W.length k3]) rfl (by kernel_rfl) (by rfl) ?run8 ?call8
  case run8=>go_simp
  refine (Load_any (S:=⟨z,o,W,Hp.adsOf L⟩) S15.out S25.out S3.out.1 S1.out.2 S2.out.2 HWF.out HEE.out).mono ?_;rintro e w6 ⟨d,rfl,hd,hown,hE6,-,-⟩;have E6:=hZ (E5.out.trans hE6);have HA6:=hZ hd;refine ⟨_,rfl,E6.out, ?_⟩;refine layy ?_;refine' wpAnyR_take (i:=9) (v:=?v9_2247) (fun _=>rfl) (fun _ _ _ h k=>h.trans k) rfl (by kernel_rfl) (by kernel_rfl) (by kernel_rfl) (fun _ _ _ h=>h) (Or.inl (Or.inl ⟨by rfl, ?hy9_2247⟩)) ?rest9_2247
  case hy9_2247=>(intro w _;go_simp;try with_reducible rfl)
  refine layy ?_;refine' wpAnyR_take (i:=10) (v:=?v10_2248) (fun _=>rfl) (fun _ _ _ h k=>h.trans k) rfl (by kernel_rfl) (by kernel_rfl) (by kernel_rfl) (fun _ _ _ h=>h) (Or.inl (Or.inl ⟨by rfl, ?hy10_2248⟩)) ?rest10_2248
  case hy10_2248=>(intro w _;go_simp;try with_reducible rfl)
  refine layy ?_;refine' wpAnyR_take (i:=11) (v:=?v11_2249) (fun _=>rfl) (fun _ _ _ h k=>h.trans k) rfl (by kernel_rfl) (by kernel_rfl) (by kernel_rfl) (fun _ _ _ h=>h) (Or.inl (Or.inl ⟨by rfl, ?hy11_2249⟩)) ?rest11_2249
  case hy11_2249=>(intro w _;go_simp;try with_reducible rfl)
  refine layy ?_;refine' wpAnyR_take (i:=12) (v:=?v12_2250) (fun _=>rfl) (fun _ _ _ h k=>h.trans k) rfl (by kernel_rfl) (by kernel_rfl) (by kernel_rfl) (fun _ _ _ h=>h) (Or.inl (Or.inl ⟨by rfl, ?hy12_2250⟩)) ?rest12_2250
  case hy12_2250=>(intro w _;go_simp;try with_reducible rfl)
  refine layy ?_;refine' wpAnyR_take (i:=13) (v:=?v13_2251) (fun _=>rfl) (fun _ _ _ h k=>h.trans k) rfl (by kernel_rfl) (by kernel_rfl) (by kernel_rfl) (fun _ _ _ h=>h) (Or.inl (Or.inl ⟨by rfl, ?hy13_2251⟩)) ?rest13_2251
  case hy13_2251=>(intro w _;go_simp;try with_reducible rfl)
  refine layy ?_;refine wpAnyR_done (by kernel_rfl) ?_ _;intro w6' e6 _;subst e6;obtain ⟨b0,b1⟩:=B1.out;have k0:=(E6.out.cell (cell_lt b0) 0).trans b0;have k1':=(E6.out.cell (cell_lt b1) 1).trans b1;have EW:=hZ (HE1.out.trans E6.out);have FT:=hZ (lFault (n:=(W.length:Int)) (H.out.sizes.ext EW.out) (H.out.order.ext EW.out));rw [HEE.out] at FT;have K6:=hZ (And.intro k0 k1');clear b0 b1 E3 E4 E5 S1 S2 S3 S14 S15 S25 R1 R2 R3 hE3 hE4 hE5 hE6 hown hd hk1 hk2 hk3 hlo;obtain ⟨gw,gwo,hpw,hgw⟩:∃ g o',pw=some ⟨g,o',none⟩/\g < w.heap.size:=by
   obtain ⟨b,o',e,hb,_⟩:=HW.out.cells (by have:=HWF.out.lo;have h2:20<=W.length:=this;omega);exact ⟨b,o',e,hb⟩
  subst hpw;have CK:=hZ (fun W1 (hE:Ext w W1)=>rCheck (S:=⟨z,o,W,Hp.adsOf L⟩) (H.out.sizes.ext hE) (H.out.order.ext hE) (HW.out.ext hE) HWF.out);simp only at CK;have WD:=hZ (fun W1 (hE:Ext w6 W1)=>Words_any (HA6.out.ext hE) (show 0 < W.length by have:=HWF.out.lo;have h2:20<=W.length:=this;omega));have ST:=hZ (fun W1 (hE:Ext w6 W1)=>by have:=Stats_any (HA6.out.ext hE) HTL.out HWF.out.pieces_;rw [HWF.out.sums_] at this;exact this);have AT:=hZ (fun W1 (hE:Ext w6 W1)=>HAI.out W1 d (HA6.out.ext hE));have DI:=hZ (fun W1 (hE:Ext w6 W1)=>HDI.out W1 d (HA6.out.ext hE));simp only at ST WD
  go_upto_region 14 with (first
   | (go_at_call 18;refine FT.out.mono ?_;rintro e w7 ⟨rfl,hE7⟩;have k0'':=(hE7.cell (cell_lt k0) 0).trans k0;have k1'':=(hE7.cell (cell_lt k1') 1).trans k1';have X7:=hZ hE7)
   | (go_at_call 19;refine (CK.out _ (EW.out.trans X7.out)).mono ?_;rintro e w8 ⟨rfl,hE8⟩;have X8:=hZ (X7.out.trans hE8))
   | (go_at_call 20;refine (WD.out _ X8.out).mono ?_;rintro e w9 ⟨g9,c9,rfl,hR9,hE9⟩;have X9:=hZ (X8.out.trans hE9);have SW:=hZ hR9.at_)
   | (go_at_call 21;refine (ST.out _ X9.out).mono ?_;rintro e w10 ⟨rfl,hE10⟩;have X10:=hZ (X9.out.trans hE10))
   | (go_at_call 22;refine (AT.out _ (by first | exact X10.out.trans (exx))).mono ?_;rintro e w11 ⟨pb,cb,rfl,hSb,hE11⟩;have SB:=hZ hSb;have HX11:=hZ hE11)
   | (go_at_call 23;refine (DI.out _ (by first | exact X10.out.trans (Ext.trans (Ext.alloc (Ext.refl _) _) (HX11.out.trans (exx))))).mono ?_;rintro e w12 ⟨Lg,rfl,hDg,hE12⟩;have DG:=hZ hDg;have HX12:=hZ hE12;unfold dgV DgL.cells))
  have x12:Ext w11 w12:=Ext.trans (Ext.alloc (Ext.alloc (Ext.refl _) _) _) HX12.out;have zn:w10.heap.size < (w10.alloc (.cells #[.int .i64 (Hp.adsOf L).length,.int .i64 T.length,.int .i64 (Hp.freeSum L),.int .i64 (Hp.freeMax 0 L)] 37)).heap.size:=by simp
  have zm:w10.heap.size < w11.heap.size:=Nat.lt_of_lt_of_le zn HX11.out.le;have n0:w12.cell? ⟨w10.heap.size,0,none⟩=some (.int .i64 (Hp.adsOf L).length):=(x12.cell zm 0).trans ((HX11.out.cell zn 0).trans (by go_simp));have n1:w12.cell? ⟨w10.heap.size,1,none⟩=some (.int .i64 T.length):=(x12.cell zm 1).trans ((HX11.out.cell zn 1).trans (by go_simp));have n2:w12.cell? ⟨w10.heap.size,2,none⟩=some (.int .i64 (Hp.freeSum L)):=(x12.cell zm 2).trans ((HX11.out.cell zn 2).trans (by go_simp));have n3:w12.cell? ⟨w10.heap.size,3,none⟩=some (.int .i64 (Hp.freeMax 0 L)):=(x12.cell zm 3).trans ((HX11.out.cell zn 3).trans (by go_simp));have m0:w12.cell? ⟨w11.heap.size,0,none⟩=some (.int .i64 bv):=(HX12.out.cell (by simp;omega) 0).trans (by go_simp);have m1:w12.cell? ⟨w11.heap.size,1,none⟩=some (.slice pb bks.length cb):=(HX12.out.cell (by simp;omega) 1).trans (by go_simp);have v0:w12.cell? ⟨w11.heap.size+1,0,none⟩=some (.int .u8 vf):=(HX12.out.cell (by simp) 0).trans (by go_simp);have v1:w12.cell? ⟨w11.heap.size+1,1,none⟩=some (.int .i64 vn):=(HX12.out.cell (by simp) 1).trans (by go_simp);have XA:Ext w12 (w12.alloc (.cells #[.slice Lg.ps zz.length Lg.cs,.slice Lg.po oo.length Lg.co,.slice Lg.pe E.length Lg.ce,.slice Lg.pn N.length Lg.cn,.int .i64 rt] 49)):=Ext.alloc (Ext.refl _) _;have X10b:Ext w10 w12:=(Ext.trans (Ext.alloc (Ext.refl _) _) HX11.out).trans x12;have E13:=hZ (show Ext w (w12.alloc (.cells #[.slice Lg.ps zz.length Lg.cs,.slice Lg.po oo.length Lg.co,.slice Lg.pe E.length Lg.ce,.slice Lg.pn N.length Lg.cn,.int .i64 rt] 49)) from EW.out.trans (X10.out.trans (X10b.trans XA)));have E613:=(X10.out.trans (X10b.trans XA))
  refine cut_world (F:=fun W'=>Hid (Ext w W')/\Hid ((W'.cell? ⟨w10.heap.size,0,none⟩=some (.int .i64 (Hp.adsOf L).length)/\W'.cell? ⟨w10.heap.size,1,none⟩=some (.int .i64 T.length))/\W'.cell? ⟨w10.heap.size,2,none⟩=some (.int .i64 (Hp.freeSum L))/\W'.cell? ⟨w10.heap.size,3,none⟩=some (.int .i64 (Hp.freeMax 0 L)))/\Hid ((W'.cell? ⟨w11.heap.size,0,none⟩=some (.int .i64 bv)/\W'.cell? ⟨w11.heap.size,1,none⟩=some (.slice pb bks.length cb))/\W'.cell? ⟨w11.heap.size+1,0,none⟩=some (.int .u8 vf)/\W'.cell? ⟨w11.heap.size+1,1,none⟩=some (.int .i64 vn))/\Hid (Own5 W' w12.heap.size (.slice Lg.ps zz.length Lg.cs) (.slice Lg.po oo.length Lg.co) (.slice Lg.pe E.length Lg.ce) (.slice Lg.pn N.length Lg.cn) (.int .i64 rt))/\Hid (SliceAt W' pb cb bks)/\Hid (DgRd W' Lg zz oo E N)/\Hid (SliceAt W' (some ⟨g9,0,none⟩) c9 W)/\Hid (W'.cell? ⟨gb,0,none⟩=some (.slice sp z.length sc)/\W'.cell? ⟨gb,1,none⟩=some (.slice op o.length oc)))
   ⟨E13,hZ ⟨⟨(XA.cell (cell_lt n0) 0).trans n0,(XA.cell (cell_lt n0) 1).trans n1⟩,(XA.cell (cell_lt n0) 2).trans n2,(XA.cell (cell_lt n0) 3).trans n3⟩,hZ ⟨⟨(XA.cell (cell_lt m0) 0).trans m0,(XA.cell (cell_lt m0) 1).trans m1⟩,(XA.cell (cell_lt v0) 0).trans v0,(XA.cell (cell_lt v0) 1).trans v1⟩,hZ ⟨by go_simp,by go_simp,by go_simp,by go_simp,by go_simp,fun o=>by go_simp⟩,hZ ((SB.out.ext x12).ext XA),hZ (DG.out.ext XA),hZ ((SW.out.ext (hE10.trans X10b)).ext XA),hZ ⟨(E613.cell (cell_lt K6.out.1) 0).trans K6.out.1,(E613.cell (cell_lt K6.out.2) 1).trans K6.out.2⟩⟩ ?_
  clear x12 n0 n1 n2 n3 m0 m1 v0 v1 XA X10b E13 E613 hE7 hE8 hE9 hE10 hE11 hE12 SB DG SW HX11 HX12 X7 X8 X9 X10 k0 k1' k0'' k1'' K6 WD ST AT DI CK FT EW HA6 E6;rintro w13 ⟨E13,NB,MB,DB,SB,DG,SW,KB⟩;generalize w11.heap.size+1=g17 at *;generalize w10.heap.size=g14 at *;generalize w11.heap.size=g16 at *;generalize w12.heap.size=g19 at *;refine wp_region_seq (S:=fun W=>Ext w13 W) (R:=Eq) (by kernel_rfl) (fun _=>rfl) (Ext.drew (Ext.refl w13)) ?_;have X14:=hZ (show Ext w13 w13.drew from Ext.drew (Ext.refl w13));generalize w13.drew=w14 at *;refine' wpAnyR_take (i:=0) (v:=?v0_2252) (fun _=>rfl) (fun _ _ _ h k=>h.trans k) rfl (by kernel_rfl) (by kernel_rfl) (by kernel_rfl) (fun _ _ _ h=>h) (Or.inl (Or.inl ⟨by rfl, ?hy0_2252⟩)) ?rest0_2252
  case hy0_2252=>(intro w hSw;(obtain ⟨b0,b1⟩:=KB.out;have k0:=(hSw.cell (cell_lt b0) 0).trans b0;have k1:=(hSw.cell (cell_lt b1) 1).trans b1);go_simp;try with_reducible rfl)
  refine layy ?_;refine' wpAnyR_take (i:=1) (v:=?v1_2253) (fun _=>rfl) (fun _ _ _ h k=>h.trans k) rfl (by kernel_rfl) (by kernel_rfl) (by kernel_rfl) (fun _ _ _ h=>h) (Or.inl (Or.inl ⟨by rfl, ?hy1_2253⟩)) ?rest1_2253
  case hy1_2253=>(intro w hSw;(obtain ⟨b0,b1⟩:=KB.out;have k0:=(hSw.cell (cell_lt b0) 0).trans b0;have k1:=(hSw.cell (cell_lt b1) 1).trans b1);go_simp;try with_reducible rfl)
  refine layy ?_;refine' wpAnyR_take (i:=2) (v:=?v2_2254) (fun _=>rfl) (fun _ _ _ h k=>h.trans k) rfl (by kernel_rfl) (by kernel_rfl) (by kernel_rfl) (fun _ _ _ h=>h) (Or.inl (Or.inl ⟨by rfl, ?hy2_2254⟩)) ?rest2_2254
  case hy2_2254=>(intro w hSw;(obtain ⟨b0,b1⟩:=KB.out;have k0:=(hSw.cell (cell_lt b0) 0).trans b0;have k1:=(hSw.cell (cell_lt b1) 1).trans b1);go_simp;try with_reducible rfl)
  refine layy ?_;refine' wpAnyR_take (i:=3) (v:=?v3_2255) (fun _=>rfl) (fun _ _ _ h k=>h.trans k) rfl (by kernel_rfl) (by kernel_rfl) (by kernel_rfl) (fun _ _ _ h=>h) (Or.inl (Or.inl ⟨by rfl, ?hy3_2255⟩)) ?rest3_2255
  case hy3_2255=>(intro w hSw;(obtain ⟨b0,b1⟩:=KB.out;have k0:=(hSw.cell (cell_lt b0) 0).trans b0;have k1:=(hSw.cell (cell_lt b1) 1).trans b1);go_simp;try with_reducible rfl)
  refine layy ?_;refine' wpAnyR_take (i:=4) (v:=?v4_2256) (fun _=>rfl) (fun _ _ _ h k=>h.trans k) rfl (by kernel_rfl) (by kernel_rfl) (by kernel_rfl) (fun _ _ _ h=>h) (Or.inl (Or.inl ⟨by rfl, ?hy4_2256⟩)) ?rest4_2256
  case hy4_2256=>(intro w hSw;(obtain ⟨b0,b1⟩:=KB.out;have k0:=(hSw.cell (cell_lt b0) 0).trans b0;have k1:=(hSw.cell (cell_lt b1) 1).trans b1);go_simp;try with_reducible rfl)
  refine layy ?_;refine wpAnyE_call 5 (f:=17) (args:=#[.slice (some ⟨gw,gwo,none⟩) W.length cw]) rfl (by kernel_rfl) (by rfl) ?run5b ?call5b
  case run5b=>go_simp
  refine (ints_any ((HW.out.ext E13.out).ext X14.out) (fun h=>by cases h) (by omega)).mono ?_;rintro e w15 ⟨pq,kq,rfl,Rq,hE15,hkq⟩;have X15:=hZ (X14.out.trans hE15);obtain ⟨gq,rfl⟩:∃ g,pq=some ⟨g,0,none⟩:=by
   rcases Rq.1.2 with ⟨e,_⟩ | ⟨g,_,_,e,_⟩
   . injection e with e1 e2
     have hlo':20<=W.length:=HWF.out.lo;omega
   injection e with e1
   exact ⟨g,e1⟩
  have SQ:=hZ Rq.at_;refine ⟨_,rfl,X15.out, ?_⟩;refine layy ?_;refine' wpAnyR_take (i:=6) (v:=?v6_2257) (fun _=>rfl) (fun _ _ _ h k=>h.trans k) rfl (by kernel_rfl) (by kernel_rfl) (by kernel_rfl) (fun _ _ _ h=>h) (Or.inl (Or.inl ⟨by rfl, ?hy6_2257⟩)) ?rest6_2257
  case hy6_2257=>(intro w _;go_simp;try with_reducible rfl)
  refine layy ?_;have RM:=hZ (rMade (S:=⟨z,o,W,Hp.adsOf L⟩) (H.out.sizes.ext (E13.out.trans X15.out)) (H.out.order.ext (E13.out.trans X15.out)) SQ.out 54);simp only at RM;refine wpAnyE_one 7 (by kernel_rfl) ?_;refine wpOp_value (v:=.pointer (some ⟨w15.heap.size,0,none⟩)) (w'':=w15.alloc (.cells #[.slice sp z.length sc,.slice op o.length oc,.slice (some ⟨gq,0,none⟩) W.length kq] 54)) rfl (by rfl) (by go_simp) ⟨X15.out.alloc _, ?_⟩;refine layy ?_;have X16:=hZ (show Ext w13 (w15.alloc (.cells #[.slice sp z.length sc,.slice op o.length oc,.slice (some ⟨gq,0,none⟩) W.length kq] 54)) from X15.out.alloc _);generalize w15.alloc (.cells #[.slice sp z.length sc,.slice op o.length oc,.slice (some ⟨gq,0,none⟩) W.length kq] 54)=w16 at *;refine' wpAnyR_take (i:=8) (v:=?v8_2258) (fun _=>rfl) (fun _ _ _ h k=>h.trans k) rfl (by kernel_rfl) (by kernel_rfl) (by kernel_rfl) (fun _ _ _ h=>h) (Or.inl (Or.inl ⟨by rfl, ?hy8_2258⟩)) ?rest8_2258
  case hy8_2258=>(intro w _;go_simp;try with_reducible rfl)
  refine layy ?_;refine wpAnyR_done (by kernel_rfl) ?_ _;intro w16' e16 _;subst e16;obtain ⟨rd,hrd⟩:∃ rd:Rd,(⟨w15.heap.size,sp,sc,op,oc,gq,0,kq⟩:Rd)=rd:=⟨_,rfl⟩
  rw [hrd] at RM;have HRD:=hZ (show (rd.sp=sp/\rd.sc=sc)/\rd.op=op/\rd.oc=oc by rw [<- hrd];exact ⟨⟨rfl,rfl⟩,rfl,rfl⟩);have hrb:w15.heap.size=rd.rb:=by rw [<- hrd]
  rw [hrb];clear hrb hrd SQ X15 Rq hE15 KB X14;have SMW:=hZ (fun W1 (hE:Ext w16 W1)=>dSame_is (b:=true) (decide_eq_true rfl) (SW.out.ext (X16.out.trans hE)) (HW.out.ext (E13.out.trans (X16.out.trans hE))));have STR:=hZ (fun W1 (hE:Ext w16 W1)=>rStats (RM.out.ext hE) HWF.out HTL.out);have ISR:=hZ (fun W1 (hE:Ext w16 W1)=>rIs (RM.out.ext hE) HWF.out x);rw [HB.out] at ISR;simp only at STR;obtain ⟨⟨n0,n1⟩,n2,n3⟩:=NB.out;have y0:=(X16.out.cell (cell_lt n0) 0).trans n0;have y1:=(X16.out.cell (cell_lt n0) 1).trans n1;have y2:=(X16.out.cell (cell_lt n0) 2).trans n2;have y3:=(X16.out.cell (cell_lt n0) 3).trans n3;have zy:=cell_lt y0;clear n0 n1 n2 n3 NB;have EQ:=fun u=>eq_arr4 (Hp.adsOf L).length T.length (Hp.freeSum L) (Hp.freeMax 0 L) u
  go_upto_region 15 with (fail)
  have pr85a:=fun u_ (h_:Ext w16 u_)=>(h_.cell zy 0).trans y0
  have pr85b:=fun u_ (h_:Ext w16 u_)=>(h_.cell zy 1).trans y1
  have pr85c:=fun u_ (h_:Ext w16 u_)=>(h_.cell zy 2).trans y2
  have pr85d:=fun u_ (h_:Ext w16 u_)=>(h_.cell zy 3).trans y3
  refine wp_region_seq (S:=fun W=>Ext w16 W) (R:=Ext) (by kernel_rfl) Ext.refl ?_ ?_
  . exact exx
  refine' tkL 0 ?_;refine' tkL 1 ?_;refine' tkL 2 ?_;refine' tkL 3 ?_;refine' tkL 4 ?_;refine' tkL 5 ?_;refine' tkL 6 ?_;refine' tkL 7 ?_;refine' tkL 8 ?_;refine' tkR 9 (v:=.bool true) rfl (Or.inr ⟨by rfl,24,_, ?hx9_2268, ?hy9_2268⟩) ?rest9_2268
  case hx9_2268=>(intro w hSw;go_simp;try with_reducible rfl)
  case hy9_2268=>exact fun w hE=>(SMW.out _ hE).mono (fun _ _ h=>⟨h.1,h.2,Ext.trans hE h.2⟩)
  refine layy ?_;refine' tkL 10 ?_;refine' tkL 11 ?_;refine' tkL 12 ?_;refine' tkL 13 ?_;refine' tkL 14 ?_;refine' tkL 15 ?_;refine' tkL 16 ?_;refine' tkL 17 ?_;refine' tkL 18 ?_;refine' tkR 19 (v:=.agg #[.int .i64 (Hp.adsOf L).length,.int .i64 T.length,.int .i64 (Hp.freeSum L),.int .i64 (Hp.freeMax 0 L)]) rfl (Or.inr ⟨by rfl,25,_, ?hx19_2278, ?hy19_2278⟩) ?rest19_2278
  case hx19_2278=>(intro w hSw;go_simp;try with_reducible rfl)
  case hy19_2278=>exact fun w hE=>(STR.out _ hE).mono (fun _ _ h=>⟨h.1,h.2,Ext.trans hE h.2⟩)
  refine layy ?_;refine' tkL 20 ?_;refine' tkL 21 ?_;refine wpAnyR_done (by kernel_rfl) ?_ _;intro x17 _ Ex17;clear pr85a pr85b pr85c pr85d;have X17:=hZ (X16.out.trans Ex17);clear y0 y1 y2 y3 zy EQ SMW STR
  rcases HTAIL.out with ⟨rfl,rfl,rfl,rfl,rfl,rfl,rfl,rfl,rfl,rfl,rfl⟩ | ⟨rfl,rfl,hRA,hRD⟩
  . go_upto_region 18 with (go_at_call 26;refine (ISR.out _ Ex17).mono ?_;rintro e w18 ⟨rfl,hE18⟩)
    have X18:=hZ (X17.out.trans hE18);obtain ⟨⟨m0,m1⟩,v0,v1⟩:=MB.out;obtain ⟨d0,d1,d2,d3,d4,dz⟩:=DB.out;have m0:=(X18.out.cell (cell_lt m0) 0).trans m0;have m1:=(X18.out.cell (cell_lt m1) 1).trans m1;have v0:=(X18.out.cell (cell_lt v0) 0).trans v0;have v1:=(X18.out.cell (cell_lt v1) 1).trans v1;have d0:=(X18.out.cell (cell_lt d0) 0).trans d0;have d1:=(X18.out.cell (cell_lt d1) 1).trans d1;have d2:=(X18.out.cell (cell_lt d2) 2).trans d2;have d3:=(X18.out.cell (cell_lt d3) 3).trans d3;have d4:=(X18.out.cell (cell_lt d4) 4).trans d4;have Z0:∀ W1,DgRd W1 ⟨none,0,none,0,none,0,none,0,[]⟩ [] [] [] []:=fun W1=>⟨⟨Nat.le_refl _,Nat.zero_le _,by simp,fun h=>by simp at h⟩,⟨Nat.le_refl _,Nat.zero_le _,by simp,fun h=>by simp at h⟩,⟨Nat.le_refl _,Nat.zero_le _,fun h=>by simp at h⟩,⟨Nat.le_refl _,Nat.zero_le _,fun h=>by simp at h⟩,rfl,fun j q k h=>by simp at h⟩
    have EQL:=fun W1 (hE:Ext w18 W1)=>dEqual_loop (x:=0) ((DG.out.ext X18.out).ext hE) (Z0 W1) rfl
    simp only [List.length_nil,decide_true] at EQL m1 d0 d1 d2 d3;have EQLH:=hZ EQL;have EQV:=fun u=>eq_val 0 0 0 0 u
    simp only [decide_true] at EQV;clear MB DB SB dz Z0 EQL
    go_wp2_with (first
     | (go_at_call 27;refine (EQLH.out _ (Ext.refl _)).mono ?_;rintro e w19 ⟨rfl,hE19⟩)
     | (go_at_call 15;refine (awake_any _).mono ?_;rintro e w20 ⟨rfl,hE20⟩))
    go_returns;exact ⟨rfl,E13.out.trans (X18.out.trans (hE19.trans hE20))⟩
  have HRA:=hZ hRA;have HRDI:=hZ hRD;clear hRA hRD
  go_upto_region 20 with (first
   | (go_at_call 26;refine (ISR.out _ Ex17).mono ?_;rintro e w18 ⟨rfl,hE18⟩)
   | (go_at_call 28;refine (HRA.out _ rd (RM.out.ext (Ex17.trans hE18))).mono ?_;rintro e w19 ⟨pc,cc,rfl,hSc,hE19⟩))
  have X19:=hZ (X17.out.trans (hE18.trans hE19));have RM19:=RM.out.ext (Ex17.trans (hE18.trans hE19));have XB:Ext w19 ((w19.alloc (.cells #[.int .i64 bv,.slice pc bks.length cc] 41)).alloc (.cells #[.int .u8 vf,.int .i64 vn] 43)):=Ext.alloc (Ext.alloc (Ext.refl _) _) _;have XX:=X19.out.trans XB;refine cut_world (F:=fun W'=>Hid (Ext w13 W')/\Hid (RAt W' rd ⟨z,o,W,Hp.adsOf L⟩)/\Hid (SliceAt W' pc cc bks)/\Hid ((W'.cell? ⟨w19.heap.size,0,none⟩=some (.int .i64 bv)/\W'.cell? ⟨w19.heap.size,1,none⟩=some (.slice pc bks.length cc))/\W'.cell? ⟨w19.heap.size+1,0,none⟩=some (.int .u8 vf)/\W'.cell? ⟨w19.heap.size+1,1,none⟩=some (.int .i64 vn))) ⟨hZ XX,hZ (RM19.ext XB),hZ (hSc.ext XB),hZ ⟨⟨by go_simp,by go_simp⟩,by go_simp,by go_simp⟩⟩ ?_;clear X19 RM19 XB XX hSc hE18 hE19 X17;rintro w20 ⟨X20,RM20,SC,CB⟩;generalize w19.heap.size+1=g23 at *;generalize w19.heap.size=g22 at *;refine wp_region_seq (S:=fun W=>Ext w13 W/\Ext w20 W) (R:=Eq) (by kernel_rfl) (fun _=>rfl) ⟨X20.out.drew,Ext.drew (Ext.refl w20)⟩ ?_;have X21:=hZ (show Ext w20 w20.drew from Ext.drew (Ext.refl w20));generalize w20.drew=w21 at *;have EQV:=fun u=>eq_val vf vn vf vn u
  simp only [decide_true] at EQV
  have FACTS:=hZ (fun W1 (hE:Ext w13 W1/\Ext w20 W1)=>(show ((W1.cell? ⟨g16,0,none⟩=some (.int .i64 bv)/\W1.cell? ⟨g16,1,none⟩=some (.slice pb bks.length cb))/\W1.cell? ⟨g17,0,none⟩=some (.int .u8 vf)/\W1.cell? ⟨g17,1,none⟩=some (.int .i64 vn))/\((W1.cell? ⟨g22,0,none⟩=some (.int .i64 bv)/\W1.cell? ⟨g22,1,none⟩=some (.slice pc bks.length cc))/\W1.cell? ⟨g23,0,none⟩=some (.int .u8 vf)/\W1.cell? ⟨g23,1,none⟩=some (.int .i64 vn)) from
   ⟨⟨⟨(hE.1.cell (cell_lt MB.out.1.1) 0).trans MB.out.1.1,(hE.1.cell (cell_lt MB.out.1.2) 1).trans MB.out.1.2⟩,(hE.1.cell (cell_lt MB.out.2.1) 0).trans MB.out.2.1,(hE.1.cell (cell_lt MB.out.2.2) 1).trans MB.out.2.2⟩,⟨(hE.2.cell (cell_lt CB.out.1.1) 0).trans CB.out.1.1,(hE.2.cell (cell_lt CB.out.1.2) 1).trans CB.out.1.2⟩,(hE.2.cell (cell_lt CB.out.2.1) 0).trans CB.out.2.1,(hE.2.cell (cell_lt CB.out.2.2) 1).trans CB.out.2.2⟩))
  refine' wpAnyR_take (i:=0) (v:=?v0_2281) (fun _=>rfl) (fun _ _ _ h k=>h.trans k) rfl (by kernel_rfl) (by kernel_rfl) (by kernel_rfl) (fun _ _ _ h=>h) (Or.inl (Or.inl ⟨by rfl, ?hy0_2281⟩)) ?rest0_2281
  case hy0_2281=>(intro w hSw;(obtain ⟨⟨⟨m0,m1⟩,v0,v1⟩,⟨r0,r1⟩,u0,u1⟩:=FACTS.out _ hSw);go_simp;try with_reducible rfl)
  refine layy ?_;refine' wpAnyR_take (i:=1) (v:=?v1_2282) (fun _=>rfl) (fun _ _ _ h k=>h.trans k) rfl (by kernel_rfl) (by kernel_rfl) (by kernel_rfl) (fun _ _ _ h=>h) (Or.inl (Or.inl ⟨by rfl, ?hy1_2282⟩)) ?rest1_2282
  case hy1_2282=>(intro w hSw;(obtain ⟨⟨⟨m0,m1⟩,v0,v1⟩,⟨r0,r1⟩,u0,u1⟩:=FACTS.out _ hSw);go_simp;try with_reducible rfl)
  refine layy ?_;refine' wpAnyR_take (i:=2) (v:=?v2_2283) (fun _=>rfl) (fun _ _ _ h k=>h.trans k) rfl (by kernel_rfl) (by kernel_rfl) (by kernel_rfl) (fun _ _ _ h=>h) (Or.inl (Or.inl ⟨by rfl, ?hy2_2283⟩)) ?rest2_2283
  case hy2_2283=>(intro w hSw;(obtain ⟨⟨⟨m0,m1⟩,v0,v1⟩,⟨r0,r1⟩,u0,u1⟩:=FACTS.out _ hSw);go_simp;try with_reducible rfl)
  refine layy ?_;refine' wpAnyR_take (i:=3) (v:=?v3_2284) (fun _=>rfl) (fun _ _ _ h k=>h.trans k) rfl (by kernel_rfl) (by kernel_rfl) (by kernel_rfl) (fun _ _ _ h=>h) (Or.inl (Or.inl ⟨by rfl, ?hy3_2284⟩)) ?rest3_2284
  case hy3_2284=>(intro w hSw;(obtain ⟨⟨⟨m0,m1⟩,v0,v1⟩,⟨r0,r1⟩,u0,u1⟩:=FACTS.out _ hSw);go_simp;try with_reducible rfl)
  refine layy ?_;refine' wpAnyR_take (i:=4) (v:=?v4_2285) (fun _=>rfl) (fun _ _ _ h k=>h.trans k) rfl (by kernel_rfl) (by kernel_rfl) (by kernel_rfl) (fun _ _ _ h=>h) (Or.inl (Or.inl ⟨by rfl, ?hy4_2285⟩)) ?rest4_2285
  case hy4_2285=>(intro w hSw;(obtain ⟨⟨⟨m0,m1⟩,v0,v1⟩,⟨r0,r1⟩,u0,u1⟩:=FACTS.out _ hSw);go_simp;try with_reducible rfl)
  refine layy ?_;refine' wpAnyR_take (i:=5) (v:=?v5_2286) (fun _=>rfl) (fun _ _ _ h k=>h.trans k) rfl (by kernel_rfl) (by kernel_rfl) (by kernel_rfl) (fun _ _ _ h=>h) (Or.inl (Or.inl ⟨by rfl, ?hy5_2286⟩)) ?rest5_2286
  case hy5_2286=>(intro w hSw;(obtain ⟨⟨⟨m0,m1⟩,v0,v1⟩,⟨r0,r1⟩,u0,u1⟩:=FACTS.out _ hSw);go_simp;try with_reducible rfl)
  refine layy ?_;refine' wpAnyR_take (i:=6) (v:=?v6_2287) (fun _=>rfl) (fun _ _ _ h k=>h.trans k) rfl (by kernel_rfl) (by kernel_rfl) (by kernel_rfl) (fun _ _ _ h=>h) (Or.inl (Or.inl ⟨by rfl, ?hy6_2287⟩)) ?rest6_2287
  case hy6_2287=>(intro w hSw;(obtain ⟨⟨⟨m0,m1⟩,v0,v1⟩,⟨r0,r1⟩,u0,u1⟩:=FACTS.out _ hSw);go_simp;try with_reducible rfl)
  refine layy ?_;refine' wpAnyR_take (i:=7) (v:=?v7_2288) (fun _=>rfl) (fun _ _ _ h k=>h.trans k) rfl (by kernel_rfl) (by kernel_rfl) (by kernel_rfl) (fun _ _ _ h=>h) (Or.inl (Or.inl ⟨by rfl, ?hy7_2288⟩)) ?rest7_2288
  case hy7_2288=>(intro w hSw;(obtain ⟨⟨⟨m0,m1⟩,v0,v1⟩,⟨r0,r1⟩,u0,u1⟩:=FACTS.out _ hSw);go_simp;try with_reducible rfl)
  refine layy ?_;refine' wpAnyR_take (i:=8) (v:=?v8_2289) (fun _=>rfl) (fun _ _ _ h k=>h.trans k) rfl (by kernel_rfl) (by kernel_rfl) (by kernel_rfl) (fun _ _ _ h=>h) (Or.inl (Or.inl ⟨by rfl, ?hy8_2289⟩)) ?rest8_2289
  case hy8_2289=>(intro w hSw;(obtain ⟨⟨⟨m0,m1⟩,v0,v1⟩,⟨r0,r1⟩,u0,u1⟩:=FACTS.out _ hSw);go_simp;try with_reducible rfl)
  refine layy ?_;refine' wpAnyR_take (i:=9) (v:=?v9_2290) (fun _=>rfl) (fun _ _ _ h k=>h.trans k) rfl (by kernel_rfl) (by kernel_rfl) (by kernel_rfl) (fun _ _ _ h=>h) (Or.inl (Or.inl ⟨by rfl, ?hy9_2290⟩)) ?rest9_2290
  case hy9_2290=>(intro w hSw;(obtain ⟨⟨⟨m0,m1⟩,v0,v1⟩,⟨r0,r1⟩,u0,u1⟩:=FACTS.out _ hSw);go_simp;try with_reducible rfl)
  refine layy ?_;refine' wpAnyR_take (i:=10) (v:=?v10_2291) (fun _=>rfl) (fun _ _ _ h k=>h.trans k) rfl (by kernel_rfl) (by kernel_rfl) (by kernel_rfl) (fun _ _ _ h=>h) (Or.inl (Or.inl ⟨by rfl, ?hy10_2291⟩)) ?rest10_2291
  case hy10_2291=>(intro w hSw;(obtain ⟨⟨⟨m0,m1⟩,v0,v1⟩,⟨r0,r1⟩,u0,u1⟩:=FACTS.out _ hSw);go_simp;try with_reducible rfl)
  refine layy ?_;refine' wpAnyR_take (i:=11) (v:=?v11_2292) (fun _=>rfl) (fun _ _ _ h k=>h.trans k) rfl (by kernel_rfl) (by kernel_rfl) (by kernel_rfl) (fun _ _ _ h=>h) (Or.inl (Or.inl ⟨by rfl, ?hy11_2292⟩)) ?rest11_2292
  case hy11_2292=>(intro w hSw;(obtain ⟨⟨⟨m0,m1⟩,v0,v1⟩,⟨r0,r1⟩,u0,u1⟩:=FACTS.out _ hSw);go_simp;try with_reducible rfl)
  refine layy ?_;refine' wpAnyR_take (i:=12) (v:=?v12_2293) (fun _=>rfl) (fun _ _ _ h k=>h.trans k) rfl (by kernel_rfl) (by kernel_rfl) (by kernel_rfl) (fun _ _ _ h=>h) (Or.inl (Or.inl ⟨by rfl, ?hy12_2293⟩)) ?rest12_2293
  case hy12_2293=>(intro w hSw;(obtain ⟨⟨⟨m0,m1⟩,v0,v1⟩,⟨r0,r1⟩,u0,u1⟩:=FACTS.out _ hSw);go_simp;try with_reducible rfl)
  refine layy ?_;refine' wpAnyR_take (i:=13) (v:=?v13_2294) (fun _=>rfl) (fun _ _ _ h k=>h.trans k) rfl (by kernel_rfl) (by kernel_rfl) (by kernel_rfl) (fun _ _ _ h=>h) (Or.inl (Or.inl ⟨by rfl, ?hy13_2294⟩)) ?rest13_2294
  case hy13_2294=>(intro w hSw;(obtain ⟨⟨⟨m0,m1⟩,v0,v1⟩,⟨r0,r1⟩,u0,u1⟩:=FACTS.out _ hSw);go_simp;try with_reducible rfl)
  refine layy ?_;refine wpAnyE_call 14 (f:=24) (args:=#[.slice pb bks.length cb,.slice pc bks.length cc]) rfl (by kernel_rfl) (by rfl) ?run14 ?call14
  case run14=>go_simp
  refine (dSame_is (b:=true) (decide_eq_true rfl) (SB.out.ext (X20.out.trans X21.out)) (SC.out.ext X21.out)).mono ?_;rintro e w22 ⟨rfl,hE22⟩;have X22:=hZ (X21.out.trans hE22);refine ⟨_,rfl,⟨X20.out.trans X22.out,X22.out⟩, ?_⟩;refine layy ?_;refine' wpAnyR_take (i:=15) (v:=?v15_2295) (fun _=>rfl) (fun _ _ _ h k=>h.trans k) rfl (by kernel_rfl) (by kernel_rfl) (by kernel_rfl) (fun _ _ _ h=>h) (Or.inl (Or.inl ⟨by rfl, ?hy15_2295⟩)) ?rest15_2295
  case hy15_2295=>(intro w hSw;(obtain ⟨⟨⟨m0,m1⟩,v0,v1⟩,⟨r0,r1⟩,u0,u1⟩:=FACTS.out _ hSw;obtain ⟨d0,d1,d2,d3,d4,dz⟩:=DB.out.ext hSw.1);go_simp;try with_reducible rfl)
  refine layy ?_;refine' wpAnyR_take (i:=16) (v:=?v16_2296) (fun _=>rfl) (fun _ _ _ h k=>h.trans k) rfl (by kernel_rfl) (by kernel_rfl) (by kernel_rfl) (fun _ _ _ h=>h) (Or.inl (Or.inl ⟨by rfl, ?hy16_2296⟩)) ?rest16_2296
  case hy16_2296=>(intro w hSw;(obtain ⟨⟨⟨m0,m1⟩,v0,v1⟩,⟨r0,r1⟩,u0,u1⟩:=FACTS.out _ hSw;obtain ⟨d0,d1,d2,d3,d4,dz⟩:=DB.out.ext hSw.1);go_simp;try with_reducible rfl)
  refine layy ?_;refine' wpAnyR_take (i:=17) (v:=?v17_2297) (fun _=>rfl) (fun _ _ _ h k=>h.trans k) rfl (by kernel_rfl) (by kernel_rfl) (by kernel_rfl) (fun _ _ _ h=>h) (Or.inl (Or.inl ⟨by rfl, ?hy17_2297⟩)) ?rest17_2297
  case hy17_2297=>(intro w hSw;(obtain ⟨⟨⟨m0,m1⟩,v0,v1⟩,⟨r0,r1⟩,u0,u1⟩:=FACTS.out _ hSw;obtain ⟨d0,d1,d2,d3,d4,dz⟩:=DB.out.ext hSw.1);go_simp;try with_reducible rfl)
  refine layy ?_;refine' wpAnyR_take (i:=18) (v:=?v18_2298) (fun _=>rfl) (fun _ _ _ h k=>h.trans k) rfl (by kernel_rfl) (by kernel_rfl) (by kernel_rfl) (fun _ _ _ h=>h) (Or.inl (Or.inl ⟨by rfl, ?hy18_2298⟩)) ?rest18_2298
  case hy18_2298=>(intro w hSw;(obtain ⟨⟨⟨m0,m1⟩,v0,v1⟩,⟨r0,r1⟩,u0,u1⟩:=FACTS.out _ hSw;obtain ⟨d0,d1,d2,d3,d4,dz⟩:=DB.out.ext hSw.1);go_simp;try with_reducible rfl)
  refine layy ?_;refine' wpAnyR_take (i:=19) (v:=?v19_2299) (fun _=>rfl) (fun _ _ _ h k=>h.trans k) rfl (by kernel_rfl) (by kernel_rfl) (by kernel_rfl) (fun _ _ _ h=>h) (Or.inl (Or.inl ⟨by rfl, ?hy19_2299⟩)) ?rest19_2299
  case hy19_2299=>(intro w hSw;(obtain ⟨⟨⟨m0,m1⟩,v0,v1⟩,⟨r0,r1⟩,u0,u1⟩:=FACTS.out _ hSw;obtain ⟨d0,d1,d2,d3,d4,dz⟩:=DB.out.ext hSw.1);go_simp;try with_reducible rfl)
  refine layy ?_;refine' wpAnyR_take (i:=20) (v:=?v20_2300) (fun _=>rfl) (fun _ _ _ h k=>h.trans k) rfl (by kernel_rfl) (by kernel_rfl) (by kernel_rfl) (fun _ _ _ h=>h) (Or.inl (Or.inl ⟨by rfl, ?hy20_2300⟩)) ?rest20_2300
  case hy20_2300=>(intro w hSw;(obtain ⟨⟨⟨m0,m1⟩,v0,v1⟩,⟨r0,r1⟩,u0,u1⟩:=FACTS.out _ hSw;obtain ⟨d0,d1,d2,d3,d4,dz⟩:=DB.out.ext hSw.1);go_simp;try with_reducible rfl)
  refine layy ?_;refine' wpAnyR_take (i:=21) (v:=?v21_2301) (fun _=>rfl) (fun _ _ _ h k=>h.trans k) rfl (by kernel_rfl) (by kernel_rfl) (by kernel_rfl) (fun _ _ _ h=>h) (Or.inl (Or.inl ⟨by rfl, ?hy21_2301⟩)) ?rest21_2301
  case hy21_2301=>(intro w hSw;(obtain ⟨⟨⟨m0,m1⟩,v0,v1⟩,⟨r0,r1⟩,u0,u1⟩:=FACTS.out _ hSw;obtain ⟨d0,d1,d2,d3,d4,dz⟩:=DB.out.ext hSw.1);go_simp;try with_reducible rfl)
  refine layy ?_;refine' wpAnyR_take (i:=22) (v:=?v22_2302) (fun _=>rfl) (fun _ _ _ h k=>h.trans k) rfl (by kernel_rfl) (by kernel_rfl) (by kernel_rfl) (fun _ _ _ h=>h) (Or.inl (Or.inl ⟨by rfl, ?hy22_2302⟩)) ?rest22_2302
  case hy22_2302=>(intro w hSw;(obtain ⟨⟨⟨m0,m1⟩,v0,v1⟩,⟨r0,r1⟩,u0,u1⟩:=FACTS.out _ hSw;obtain ⟨d0,d1,d2,d3,d4,dz⟩:=DB.out.ext hSw.1);go_simp;try with_reducible rfl)
  refine layy ?_;refine' wpAnyR_take (i:=23) (v:=?v23_2303) (fun _=>rfl) (fun _ _ _ h k=>h.trans k) rfl (by kernel_rfl) (by kernel_rfl) (by kernel_rfl) (fun _ _ _ h=>h) (Or.inl (Or.inl ⟨by rfl, ?hy23_2303⟩)) ?rest23_2303
  case hy23_2303=>(intro w hSw;(obtain ⟨⟨⟨m0,m1⟩,v0,v1⟩,⟨r0,r1⟩,u0,u1⟩:=FACTS.out _ hSw;obtain ⟨d0,d1,d2,d3,d4,dz⟩:=DB.out.ext hSw.1);go_simp;try with_reducible rfl)
  refine layy ?_;refine' wpAnyR_take (i:=24) (v:=?v24_2304) (fun _=>rfl) (fun _ _ _ h k=>h.trans k) rfl (by kernel_rfl) (by kernel_rfl) (by kernel_rfl) (fun _ _ _ h=>h) (Or.inl (Or.inl ⟨by rfl, ?hy24_2304⟩)) ?rest24_2304
  case hy24_2304=>(intro w hSw;(obtain ⟨⟨⟨m0,m1⟩,v0,v1⟩,⟨r0,r1⟩,u0,u1⟩:=FACTS.out _ hSw;obtain ⟨d0,d1,d2,d3,d4,dz⟩:=DB.out.ext hSw.1);go_simp;try with_reducible rfl)
  refine layy ?_;refine' wpAnyR_take (i:=25) (v:=?v25_2305) (fun _=>rfl) (fun _ _ _ h k=>h.trans k) rfl (by kernel_rfl) (by kernel_rfl) (by kernel_rfl) (fun _ _ _ h=>h) (Or.inl (Or.inl ⟨by rfl, ?hy25_2305⟩)) ?rest25_2305
  case hy25_2305=>(intro w hSw;(obtain ⟨⟨⟨m0,m1⟩,v0,v1⟩,⟨r0,r1⟩,u0,u1⟩:=FACTS.out _ hSw;obtain ⟨d0,d1,d2,d3,d4,dz⟩:=DB.out.ext hSw.1);go_simp;try with_reducible rfl)
  refine layy ?_;refine' wpAnyR_take (i:=26) (v:=?v26_2306) (fun _=>rfl) (fun _ _ _ h k=>h.trans k) rfl (by kernel_rfl) (by kernel_rfl) (by kernel_rfl) (fun _ _ _ h=>h) (Or.inl (Or.inl ⟨by rfl, ?hy26_2306⟩)) ?rest26_2306
  case hy26_2306=>(intro w hSw;(obtain ⟨⟨⟨m0,m1⟩,v0,v1⟩,⟨r0,r1⟩,u0,u1⟩:=FACTS.out _ hSw;obtain ⟨d0,d1,d2,d3,d4,dz⟩:=DB.out.ext hSw.1);go_simp;try with_reducible rfl)
  refine layy ?_;refine' wpAnyR_take (i:=27) (v:=?v27_2307) (fun _=>rfl) (fun _ _ _ h k=>h.trans k) rfl (by kernel_rfl) (by kernel_rfl) (by kernel_rfl) (fun _ _ _ h=>h) (Or.inl (Or.inl ⟨by rfl, ?hy27_2307⟩)) ?rest27_2307
  case hy27_2307=>(intro w hSw;(obtain ⟨⟨⟨m0,m1⟩,v0,v1⟩,⟨r0,r1⟩,u0,u1⟩:=FACTS.out _ hSw;obtain ⟨d0,d1,d2,d3,d4,dz⟩:=DB.out.ext hSw.1);go_simp;try with_reducible rfl)
  refine layy ?_;refine' wpAnyR_take (i:=28) (v:=?v28_2308) (fun _=>rfl) (fun _ _ _ h k=>h.trans k) rfl (by kernel_rfl) (by kernel_rfl) (by kernel_rfl) (fun _ _ _ h=>h) (Or.inl (Or.inl ⟨by rfl, ?hy28_2308⟩)) ?rest28_2308
  case hy28_2308=>(intro w hSw;(obtain ⟨⟨⟨m0,m1⟩,v0,v1⟩,⟨r0,r1⟩,u0,u1⟩:=FACTS.out _ hSw;obtain ⟨d0,d1,d2,d3,d4,dz⟩:=DB.out.ext hSw.1);go_simp;try with_reducible rfl)
  refine layy ?_;refine wpAnyE_call 29 (f:=29) (args:=#[.pointer (some ⟨rd.rb,0,none⟩),.int .i64 x]) rfl (by kernel_rfl) (by rfl) ?run29 ?call29
  case run29=>go_simp
  refine (HRDI.out w22 rd (RM20.out.ext X22.out) (by rw [HRD.out.1.1,HRD.out.1.2];exact H.out.n1) (by rw [HRD.out.2.1,HRD.out.2.2];exact H.out.n2)).mono ?_;rintro e w23 ⟨Lq,rfl,hDq,hE23⟩;have X23:=hZ (X22.out.trans hE23);have DQ:=hZ hDq;refine ⟨_,rfl,⟨X20.out.trans X23.out,X23.out⟩, ?_⟩;refine layy ?_;refine wpAnyE_call 30 (f:=27) (args:=#[.agg #[.slice Lg.ps zz.length Lg.cs,.slice Lg.po oo.length Lg.co,.slice Lg.pe E.length Lg.ce,.slice Lg.pn N.length Lg.cn,.int .i64 rt],dgV Lq zz.length oo.length E.length N.length rt]) rfl (by kernel_rfl) (by rfl) ?run30 ?call30
  case run30=>go_simp
  have EQL:=dEqual_loop (x:=rt) (DG.out.ext (X20.out.trans X23.out)) DQ.out rfl;rw [decide_eq_true (rfl:N=N)] at EQL;refine (show Calls _ _ _ _ _ from EQL).mono ?_;rintro e w24 ⟨rfl,hE24⟩;have X24:=hZ (X23.out.trans hE24);refine ⟨_,rfl,⟨X20.out.trans X24.out,X24.out⟩, ?_⟩;refine layy ?_;refine' wpAnyR_take (i:=31) (v:=?v31_2309) (fun _=>rfl) (fun _ _ _ h k=>h.trans k) rfl (by kernel_rfl) (by kernel_rfl) (by kernel_rfl) (fun _ _ _ h=>h) (Or.inl (Or.inl ⟨by rfl, ?hy31_2309⟩)) ?rest31_2309
  case hy31_2309=>(intro w _;go_simp;try with_reducible rfl)
  refine layy ?_;refine' wpAnyR_take (i:=32) (v:=?v32_2310) (fun _=>rfl) (fun _ _ _ h k=>h.trans k) rfl (by kernel_rfl) (by kernel_rfl) (by kernel_rfl) (fun _ _ _ h=>h) (Or.inl (Or.inl ⟨by rfl, ?hy32_2310⟩)) ?rest32_2310
  case hy32_2310=>(intro w _;go_simp;try with_reducible rfl)
  refine layy ?_;refine wpAnyE_call 33 (f:=15) (args:=#[]) rfl (by kernel_rfl) (by rfl) ?run33 ?call33
  case run33=>go_simp
  refine (awake_any _).mono ?_;rintro e w25 ⟨rfl,hE25⟩;have X25:=hZ (X24.out.trans hE25);refine ⟨_,rfl,⟨X20.out.trans X25.out,X25.out⟩, ?_⟩;refine layy ?_;refine' wpAnyR_take (i:=34) (v:=?v34_2311) (fun _=>rfl) (fun _ _ _ h k=>h.trans k) rfl (by kernel_rfl) (by kernel_rfl) (by kernel_rfl) (fun _ _ _ h=>h) (Or.inl (Or.inl ⟨by rfl, ?hy34_2311⟩)) ?rest34_2311
  case hy34_2311=>(intro w _;go_simp;try with_reducible rfl)
  refine layy ?_;refine' wpAnyR_take (i:=35) (v:=?v35_2312) (fun _=>rfl) (fun _ _ _ h k=>h.trans k) rfl (by kernel_rfl) (by kernel_rfl) (by kernel_rfl) (fun _ _ _ h=>h) (Or.inl (Or.inl ⟨by rfl, ?hy35_2312⟩)) ?rest35_2312
  case hy35_2312=>(intro w _;go_simp;try with_reducible rfl)
  refine layy ?_;refine wpAnyR_done (by kernel_rfl) ?_ _;intro w25' e25 _;subst e25
  go_wp2_with fail
  go_returns;exact ⟨rfl,E13.out.trans (X20.out.trans X25.out)⟩
end Go.Proofs.YtdokmmhjmclmnaaGreat
