/-
  Part 25 of a proof: RP8 RP13 RP15 RP14.
-/
import Derived.Test.YtdokmmhjmclmnaaGreatMS08
import Derived.Test.YtdokmmhjmclmnaaGreatMS09
import Derived.Test.YtdokmmhjmclmnaaGreatMS18
import Derived.Test.YtdokmmhjmclmnaaGreatMS24
set_option linter.unusedSimpArgs false
set_option linter.unusedVariables false
set_option linter.unusedSectionVars false
set_option linter.unnecessarySimpa false
namespace Go.Proofs.YtdokmmhjmclmnaaGreat
variable {W' w w' w0:World} {B a b base c ca cap f g i j k k1 k2 lb n oc qc sb sc:Nat} {choice e t x:Int} {A V W fs l o z:List Int} {D T Y:List Nat} {op p p1 p2 pa q sp:Option Addr} {d:Hd} {S S':Hp.Hs} {r:Rd} {L:List Hp.Tl} {M:List (Nat × Int)} {s s' s1:Hp.Sc} {acts:List Hp.Act'} {c0 c1:Value}
open Go.RowKit Go.Maps
set_option maxRecDepth 100000 in
set_option maxHeartbeats 4000000 in
theorem rKid {ch:Nat->List Nat} (h:RAt w r S) (hw:Hp.Wf S B L ch) (hY:∀ y ∈ Y,y ∈ S.taken) (hp:SliceAt w p c (Hp.natsI Y)) {b:Bool} (hb:b=true ↔ Hp.KidOf S Y a) :
    Calls Tryz.prog 140 #[.pointer (some ⟨r.rb,0,none⟩),.slice p Y.length c,.int .i64 a] w fun e w'=>e = .returned (.bool b)/\Ext w w':=by
  have FLD:=hZ (fun b (hb:b ∈ S.taken) W (hW:Ext w W)=>rField (h.ext hW) hw hb);have FAT:=hZ (fun b (hb:b ∈ S.taken) W (hW:Ext w W)=>fieldAt (h.ext hW) hw hb);have H:=hZ h;have HW:=hZ hw;have HY:=hZ hY;have HP:=hZ hp;have HB:=hZ hb;have hle:=hp.le;have hcap:=hp.cap;rw [Hp.natsI_len] at hle;obtain ⟨m,hm⟩:∃ m,Y.length=m:=⟨_,rfl⟩
  have EM:=hZ hm;rw [hm] at hle ⊢;clear h hw hY hp hb hm;go_enter Tryz.func140,Tryz.ntmps140
  go_wp2_with fail
  go_loopg [7] m (fun g i wr=>∃ j:Nat,j<=m/\m-j<=g/\i = .int .i64 j/\Hid (Ext w wr)/\Hid (∀ i y,i < j->Y[i]? = some y->(a:Int) ∉ Hp.kz (Hp.ow S.words) S.sizes y))
  case atStart=>exact ⟨0,Nat.zero_le _,by omega,rfl,hZ (Ext.refl w),hZ (fun i _ hi=>absurd hi (Nat.not_lt_zero _))⟩
  case round=>
   obtain ⟨j,hj,hg,rfl,E,A⟩:=hrel
   by_cases hlt:j < m
   . obtain ⟨y,hy⟩:∃ y,Y[j]? = some y:=⟨_,List.getElem?_eq_getElem (by rw [EM.out];exact hlt)⟩
     have hyt:=HY.out y (List.mem_of_getElem? hy);have pb:=HW.out.part hyt;obtain ⟨lb,lo,hlp,hlbb,hlc⟩:=(HP.out.ext E.out).cells (by rw [Hp.natsI_len,EM.out];omega);have gl:=hlc j _ (Hp.natsI_rd hy);have tk:decide ((j:Int) < (m:Int))=true:=dT;have HYJ:=hZ hy;have RI:=hZ (rIsNode (H.out.ext E.out) (a:=y) (by omega));subst hlp
     cases he:Hp.isEnd (Hp.ow S.words y) with
     | true=>
      have hne:¬ Hp.ow S.words y < 20:=by
       simp only [Hp.isEnd,Hp.within,Bool.and_eq_true,decide_eq_true_eq] at he;omega
      rw [decide_eq_false hne] at RI;have A2:Hid (∀ i z,i < j+1->Y[i]? = some z->(a:Int) ∉ Hp.kz (Hp.ow S.words) S.sizes z):=hZ (fun i z hi hz=>by
       by_cases e:i=j
       . subst e;rw [HYJ.out] at hz
         cases hz
         simp [Hp.kz,he]
       . exact A.out i z (by omega) hz)
      clear hlc hy hyt pb he hne
      go_wp2_with (go_at_call 87;refine (RI.out).mono ?_;rintro e w1 ⟨rfl,hb1⟩;obtain ⟨hc1,hf1,hs1⟩:=hb1.cells)
      have E2:=hZ (E.out.trans hb1)
      go_roundg (m-(j+1))
      case measure=>omega
      case rel=>exact ⟨j+1,by omega,Nat.le_refl _,by go_num,E2,A2⟩
     | false=>
      have hnd:=Hp.isNode_of (HW.out.cells.tags y hyt) he;have hlt20:Hp.ow S.words y < 20:=by
       simp only [Hp.isNode,Hp.within,Bool.and_eq_true,decide_eq_true_eq] at hnd;have:=HW.out.fr.few;omega
      rw [decide_eq_true hlt20] at RI;have ekz:Hp.kz (Hp.ow S.words) S.sizes y=Hp.fz (Hp.ow S.words) S.sizes y:=by simp [Hp.kz,he]
      have FL:=hZ (fun W (hW:Ext w W)=>FLD.out y hyt W hW);have FA:=hZ (fun W (hW:Ext w W)=>FAT.out y hyt W hW);obtain ⟨bb,hbb⟩:∃ bb,(Hp.fz (Hp.ow S.words) S.sizes y).contains (a:Int)=bb:=⟨_,rfl⟩
      have HC:=hZ (fun W (hW:Ext w W)=>rHas_is hbb (FA.out W hW));have EK:=hZ ekz;have HBB:=hZ hbb;generalize (Hp.fz (Hp.ow S.words) S.sizes y).length=fl at *;clear hlc hy hyt pb he hnd hlt20 ekz hbb
      cases bb with
      | true=>
       have hbt:b=true:=HB.out.2 ⟨y,List.mem_of_getElem? HYJ.out,by
        rw [EK.out];have:=HBB.out
        simpa using this⟩
       subst hbt
       go_wp2_with (first
        | (go_at_call 87;refine (RI.out).mono ?_;rintro e w1 ⟨rfl,hb1⟩;obtain ⟨hc1,hf1,hs1⟩:=hb1.cells;have gl2:=(hb1.cell hlbb (lo+j)).trans gl)
        | (go_at_call 88;refine (FL.out _ (E.out.trans hb1)).mono ?_;rintro e w2 ⟨rfl,hb2⟩;obtain ⟨hc2,hf2,hs2⟩:=hb2.cells)
        | (go_at_call 85;refine (HC.out _ (E.out.trans (hb1.trans hb2))).mono ?_;rintro e w3 ⟨rfl,hb3⟩;obtain ⟨hc3,hf3,hs3⟩:=hb3.cells))
       go_returns;exact ⟨rfl,E.out.trans ((hb1.trans hb2).trans hb3)⟩
      | false=>
       have A2:Hid (∀ i z,i < j+1->Y[i]? = some z->(a:Int) ∉ Hp.kz (Hp.ow S.words) S.sizes z):=hZ (fun i z hi hz=>by
        by_cases e:i=j
        . subst e;rw [HYJ.out] at hz
          cases hz
          rw [EK.out];have:=HBB.out
          simpa using this
        . exact A.out i z (by omega) hz)
       go_wp2_with (first
        | (go_at_call 87;refine (RI.out).mono ?_;rintro e w1 ⟨rfl,hb1⟩;obtain ⟨hc1,hf1,hs1⟩:=hb1.cells;have gl2:=(hb1.cell hlbb (lo+j)).trans gl)
        | (go_at_call 88;refine (FL.out _ (E.out.trans hb1)).mono ?_;rintro e w2 ⟨rfl,hb2⟩;obtain ⟨hc2,hf2,hs2⟩:=hb2.cells)
        | (go_at_call 85;refine (HC.out _ (E.out.trans (hb1.trans hb2))).mono ?_;rintro e w3 ⟨rfl,hb3⟩;obtain ⟨hc3,hf3,hs3⟩:=hb3.cells))
       have E2:=hZ (E.out.trans ((hb1.trans hb2).trans hb3))
       go_roundg (m-(j+1))
       case measure=>omega
       case rel=>exact ⟨j+1,by omega,Nat.le_refl _,by go_num,E2,A2⟩
   have:j=m:=by omega
   subst this;have tk:decide ((j:Int) < (j:Int))=false:=dF;have hbf:b=false:=by
    cases b with
    | false=>rfl
    | true=>
     obtain ⟨y,hy,hk⟩:=HB.out.1 rfl;obtain ⟨i,hi,e⟩:=List.getElem_of_mem hy;exact absurd hk (A.out i y (by rw [<- EM.out];exact hi) (by rw [List.getElem?_eq_getElem hi,e]))
   subst hbf
   go_wp2_with fail
   go_returns;exact ⟨rfl,E.out⟩
def RLivePost (w:World) (T:List Nat) (e:Ending) (w':World):Prop:=∃ Y p c b0,e = .returned (.slice p Y.length c)/\w.heap.size<=b0/\Row w' b0 p c (Hp.natsI Y)/\Ext w w'/\(∀ a,a ∈ Y ↔ a ∈ T)/\Y.length=T.length
set_option maxRecDepth 100000 in
set_option maxHeartbeats 16000000 in
theorem rLive {ch:Nat->List Nat} (h:RAt w r S) (hw:Hp.Wf S B L ch) (hT:S.live=some T) :
    Calls Tryz.prog 83 #[.pointer (some ⟨r.rb,0,none⟩)] w (RLivePost w T):=by
  have CELLS:=hZ (rCells_ h hw);have H:=hZ h;have HW:=hZ hw;have HT:=hZ hT;have few:=hw.few;have hhi:=hw.hi;have hle:=h.words.le;have hcap:=h.words.cap;have hlt:=h.lt;obtain ⟨gbb,o',hp',hbb,_⟩:=h.words.cells (by have:=hw.lo;omega)
  cases hp'
  have c2:=h.c2;obtain ⟨n,hn⟩:∃ n,S.words.length=n:=⟨_,rfl⟩
  have EN:=hZ hn;rw [hn] at c2 hle few hhi;obtain ⟨m,hm⟩:∃ m,S.taken.length=m:=⟨_,rfl⟩
  have EM:=hZ hm;rw [hm] at few;clear h hw hT hn hm;go_enter Tryz.func83,Tryz.ntmps83
  go_wp2_with (go_at_call 82;refine CELLS.out.mono ?_;rintro e w1 ⟨p,c,rfl,hR,hE⟩;rw [cellsI_len,EM.out];have RR:=hZ hR.at_;have E1:=hZ hE)
  clear hR hE CELLS;have lle:=RR.out.le;have lcap:=RR.out.cap;rw [cellsI_len,EM.out] at lle
  go_loopg [3,5] (2 * m+1) (fun g o nn wr=>∃ (Y:List Nat) (k:Int) (p2:Option Addr) (c2':Nat),2 * (m-Y.length)<=g/\(k < (Y.length:Int)->2 * (m-Y.length)+1<=g)/\k<=(Y.length:Int)/\o = .slice p2 Y.length c2'/\nn = .int .i64 k/\Hid (k=(Y.length:Int)->Hp.ShutTo S Y m)/\Hid (Hp.Finding S T Y)/\Hid (Row wr w1.heap.size p2 c2' (Hp.natsI Y))/\Hid (Ext w1 wr))
  case atStart=>exact ⟨[],-1,none,0,by simp,by simp,by simp,rfl,rfl,hZ (fun e=>by simp at e),hZ (Hp.Finding.start S T),hZ (Row.nil _ _),hZ (Ext.refl _)⟩
  case round=>
   obtain ⟨Y,k,p2,cp2,hg1,hg2,hk,rfl,rfl,SH,F,R,E⟩:=hrel;have flen:=F.out.len HW.out HT.out;rw [EM.out] at flen;obtain ⟨yl,hyl⟩:∃ yl,Y.length=yl:=⟨_,rfl⟩
   have EY:=hZ hyl;rw [hyl] at hg1 hg2 hk flen ⊢;clear hyl
   by_cases hkl:k < (yl:Int)
   . have tk:decide (k < (yl:Int))=true:=decide_eq_true hkl;have hg3:=hg2 hkl;clear SH hg2 hg1
     go_wp2_with fail
     go_loopg [3,6] m (fun g o i wr=>∃ (j:Nat) (Y2:List Nat) (p2:Option Addr) (c2':Nat),j<=m/\m-j<=g/\yl<=Y2.length/\o = .slice p2 Y2.length c2'/\i = .int .i64 j/\Hid (Y2.length=yl->Hp.ShutTo S Y2 j)/\Hid (Hp.Finding S T Y2)/\Hid (Row wr w1.heap.size p2 c2' (Hp.natsI Y2))/\Hid (Ext w1 wr))
     case atStart=>exact ⟨0,Y,p2,cp2,Nat.zero_le _,by omega,by rw [EY.out];exact Nat.le_refl _,by rw [EY.out],rfl,hZ (fun _ i _ hi=>absurd hi (Nat.not_lt_zero _)),F,R,E⟩
     case round=>
      obtain ⟨j,Y2,p3,c3,hj,hgj,hy2,rfl,rfl,SH,F2,R2,E2⟩:=hrel;clear F R E EY;have flen2:=F2.out.len HW.out HT.out;rw [EM.out] at flen2
      by_cases hlt2:j < m
      . obtain ⟨a,ha,haj,hrd⟩:=cellsI_rd (S:=S) (j:=j) (by rw [EM.out];exact hlt2);have pa:=HW.out.part ha;obtain ⟨lb,lo,hlp,hlbb,hlc⟩:=(RR.out.ext E2.out).cells (by rw [cellsI_len,EM.out];omega);have gl:=hlc j _ hrd;have Ew:=E1.out.trans E2.out;have c2w:=(Ew.cell hlt 2).trans c2;have gw:=(H.out.ext Ew).get (j:=a+2) (by omega);rw [EN.out] at pa;have zb:r.rb < wr.heap.size:=Nat.lt_of_lt_of_le hlt Ew.le;have zg:r.gb < wr.heap.size:=Nat.lt_of_lt_of_le hbb Ew.le;have a2:a+2 < n:=by omega
        have EW:=hZ Ew;have HA:=hZ ha;have HAJ:=hZ haj;have HY2:=hZ (fun y (hy:y ∈ Y2)=>(Hp.live_in HW.out HT.out).1 y (F2.out.sub y hy));have SR:=hZ R2.out.at_;have tk:decide ((j:Int) < (m:Int))=true:=dT;have wsz:w1.heap.size<=wr.heap.size:=E2.out.le;have q1:=SR.out.le;have q2:=SR.out.cap;rw [Hp.natsI_len] at q1;obtain ⟨bh,hbh⟩:∃ bh,Y2.contains a=bh:=⟨_,rfl⟩
        have HAS:=hZ (fun W (hW:Ext wr W)=>by
         have:=rHas_is (Hp.natsI_contains.trans hbh) (SR.out.ext hW);rw [Hp.natsI_len] at this;exact this)
        have HBH:=hZ hbh;obtain ⟨i1,i2,i3,i4⟩:IntKind.i64.wrap (((a:Nat):Int)+2)=((a:Nat):Int)+2/\(0:Int)<=((a:Nat):Int)+2/\((a:Nat):Int)+2 < ((n:Nat):Int)/\(((a:Nat):Int)+2).toNat=a+2:=⟨IntWalk.i64_in _ (by omega),by omega,by omega,by omega⟩
        subst hlp;clear hlc hrd ha haj pa Ew hbh;generalize hv:Hp.ow S.words (a+2)=v at gw;have HV:=hZ hv;clear hv
        cases bh with
        | true=>
         have S2:Hid (Y2.length=yl->Hp.ShutTo S Y2 (j+1)):=hZ (fun e i z hi hz hwz=>by
          by_cases e':i=j
          . subst e';rw [HAJ.out] at hz
            cases hz
            have:=HBH.out
            simpa using this
          . exact SH.out e i z (by omega) hz hwz)
         go_wp2_with fail
         have pr67a:=fun u_ (h_:Ext wr u_)=>(h_.cell zb 2).trans c2w
         have pr67b:=fun u_ (h_:Ext wr u_)=>(h_.cell hlbb (lo+j)).trans gl
         have pr67c:=fun u_ (h_:Ext wr u_)=>(h_.cell zg (r.go+(a+2))).trans gw
         refine wp_region_seq (S:=fun W=>Ext wr W) (R:=Ext) (by kernel_rfl) Ext.refl ?_ ?_
         . exact exx
         refine' tkL 0 ?_;refine' tkL 1 ?_;refine' tkL 2 ?_;refine' tkL 3 ?_;refine' tkL 4 ?_;refine' tkR 5 (v:=.bool true) rfl (Or.inr ⟨by rfl,85,_, ?hx5_6, ?hy5_6⟩) ?rest5_6
         case hx5_6=>(intro w hSw;go_simp;try with_reducible rfl)
         case hy5_6=>exact fun w hE=>(HAS.out _ hE).mono (fun _ _ h=>⟨h.1,h.2,Ext.trans hE h.2⟩)
         refine layy ?_;refine' tkL 6 ?_;refine' tkL 7 ?_;refine' tkN 8 ?_;refine' tkN 9 ?_;refine' tkN 10 ?_;refine' tkN 11 ?_;refine' tkN 12 ?_;refine' tkN 13 ?_;refine' tkN 14 ?_;refine' tkN 15 ?_;refine' tkN 16 ?_;refine' tkN 17 ?_;refine' tkN 18 ?_;refine' tkN 19 ?_;refine' tkN 20 ?_;refine' tkN 21 ?_;refine' tkN 22 ?_;refine' tkN 23 ?_;refine' tkN 24 ?_;refine' tkN 25 ?_;refine' tkN 26 ?_;refine' tkN 27 ?_;refine' tkN 28 ?_;refine' tkL 29 ?_;refine wpAnyR_done (by kernel_rfl) ?_ _;intro x1 _ Ex1;clear pr67a pr67b pr67c;have E3:=hZ (E2.out.trans Ex1);have R3:=hZ (R2.out.ext Ex1)
         go_wp2_with fail
         go_roundg (m-(j+1))
         case measure=>omega
         case rel=>exact ⟨j+1,Y2,p3,c3,by omega,Nat.le_refl _,hy2,rfl,by go_num,S2,F2,R3,E3⟩
        | false=>
         have hnot:a ∉ Y2:=by
          have:=HBH.out
          simpa using this
         have hnots:=hZ hnot;clear hnot
         by_cases hpos:0 < v
         . have t1:decide (v > 0)=true:=decide_eq_true hpos;have t2:decide (0 < v)=true:=decide_eq_true hpos;have F3:=hZ (F2.out.add HW.out HT.out HA.out hnots.out (.inl (by rw [HV.out];exact hpos)));clear hpos
           go_wp2_with fail
           have pr68a:=fun u_ (h_:Ext wr u_)=>(h_.cell zb 2).trans c2w
           have pr68b:=fun u_ (h_:Ext wr u_)=>(h_.cell hlbb (lo+j)).trans gl
           have pr68c:=fun u_ (h_:Ext wr u_)=>(h_.cell zg (r.go+(a+2))).trans gw
           refine wp_region_seq (S:=fun W=>Ext wr W) (R:=Ext) (by kernel_rfl) Ext.refl ?_ ?_
           . exact exx
           refine' tkL 0 ?_;refine' tkL 1 ?_;refine' tkL 2 ?_;refine' tkL 3 ?_;refine' tkL 4 ?_;refine' tkR 5 (v:=.bool false) rfl (Or.inr ⟨by rfl,85,_, ?hx5_36, ?hy5_36⟩) ?rest5_36
           case hx5_36=>(intro w hSw;go_simp;try with_reducible rfl)
           case hy5_36=>exact fun w hE=>(HAS.out _ hE).mono (fun _ _ h=>⟨h.1,h.2,Ext.trans hE h.2⟩)
           refine layy ?_;refine' tkL 6 ?_;refine' tkL 7 ?_;refine' tkL 8 ?_;refine' tkL 9 ?_;refine' tkL 10 ?_;refine' tkL 11 ?_;refine' tkL 12 ?_;refine' tkL 13 ?_;refine' tkL 14 ?_;refine' tkL 15 ?_;refine' tkL 16 ?_;refine' tkL 17 ?_;refine' tkL 18 ?_;refine' tkL 19 ?_;refine' tkL 20 ?_;refine' tkN 21 ?_;refine' tkN 22 ?_;refine' tkN 23 ?_;refine' tkN 24 ?_;refine' tkN 25 ?_;refine' tkN 26 ?_;refine' tkN 27 ?_;refine' tkL 28 ?_;refine' tkL 29 ?_;refine wpAnyR_done (by kernel_rfl) ?_ _;intro x1 _ Ex1;clear pr68a pr68b pr68c;have E3:=hZ (E2.out.trans Ex1);have R3:=hZ (R2.out.ext Ex1);have gl2:=(Ex1.cell hlbb (lo+j)).trans gl;have zl:=Nat.lt_of_lt_of_le hlbb Ex1.le;have wsz2:=Nat.le_trans wsz Ex1.le;have RA:=hZ (R3.out.ext (Ext.alloc (Ext.refl _) (.cells #[.int .i64 a] 3)));have FL3:=F3.out.len HW.out HT.out;have eF:(Hp.natsI Y2).length=Y2.length:=Hp.natsI_len Y2
           go_wp2_with (at_builtin;rw [<- Hp.natsI_len Y2];refine wpList_append_int rfl _ _ rfl (y:=(a:Int)) rfl rfl RA.out (by go_simp) (by omega) (by omega) (by omega) (by simp;omega) ?_;intro g8 c8 x8 hR8 hG8;obtain ⟨row,hgr,hrow⟩:=id hG8;have E8:Ext w1 x8:=ext_grow (E3.out.alloc _) hgr hrow;have R8H:=hZ hR8)
           go_roundg (m-(j+1))
           case measure=>omega
           case rel=>exact ⟨j+1,Y2 ++ [a],some ⟨g8,0,none⟩,c8,by omega,Nat.le_refl _,by simp;omega,by simp [Hp.natsI_len],by go_num,hZ (fun e=>by simp at e;omega),F3,hZ (by rw [Hp.natsI_app];exact R8H.out),hZ E8⟩
         have t1:decide (v > 0)=false:=decide_eq_false hpos;have t2:decide (0 < v)=false:=decide_eq_false hpos;have HPOS:=hZ hpos;clear hpos
         by_cases hkd:Hp.KidOf S Y2 a
         . have F3:=hZ (F2.out.add HW.out HT.out HA.out hnots.out (.inr hkd));have KID:=hZ (fun W (hW:Ext wr W)=>rKid (H.out.ext (EW.out.trans hW)) HW.out HY2.out (SR.out.ext hW) (a:=a) (b:=true) ⟨fun _=>hkd,fun _=>rfl⟩);clear hkd
           go_wp2_with fail
           have pr69a:=fun u_ (h_:Ext wr u_)=>(h_.cell zb 2).trans c2w
           have pr69b:=fun u_ (h_:Ext wr u_)=>(h_.cell hlbb (lo+j)).trans gl
           have pr69c:=fun u_ (h_:Ext wr u_)=>(h_.cell zg (r.go+(a+2))).trans gw
           refine wp_region_seq (S:=fun W=>Ext wr W) (R:=Ext) (by kernel_rfl) Ext.refl ?_ ?_
           . exact exx
           refine' tkL 0 ?_;refine' tkL 1 ?_;refine' tkL 2 ?_;refine' tkL 3 ?_;refine' tkL 4 ?_;refine' tkR 5 (v:=.bool false) rfl (Or.inr ⟨by rfl,85,_, ?hx5_66, ?hy5_66⟩) ?rest5_66
           case hx5_66=>(intro w hSw;go_simp;try with_reducible rfl)
           case hy5_66=>exact fun w hE=>(HAS.out _ hE).mono (fun _ _ h=>⟨h.1,h.2,Ext.trans hE h.2⟩)
           refine layy ?_;refine' tkL 6 ?_;refine' tkL 7 ?_;refine' tkL 8 ?_;refine' tkL 9 ?_;refine' tkL 10 ?_;refine' tkL 11 ?_;refine' tkL 12 ?_;refine' tkL 13 ?_;refine' tkL 14 ?_;refine' tkL 15 ?_;refine' tkL 16 ?_;refine' tkL 17 ?_;refine' tkL 18 ?_;refine' tkL 19 ?_;refine' tkL 20 ?_;refine' tkL 21 ?_;refine' tkL 22 ?_;refine' tkL 23 ?_;refine' tkL 24 ?_;refine' tkL 25 ?_;refine' tkL 26 ?_;refine' tkR 27 (v:=.bool true) rfl (Or.inr ⟨by rfl,140,_, ?hx27_88, ?hy27_88⟩) ?rest27_88
           case hx27_88=>(intro w hSw;go_simp;try with_reducible rfl)
           case hy27_88=>exact fun w hE=>(KID.out _ hE).mono (fun _ _ h=>⟨h.1,h.2,Ext.trans hE h.2⟩)
           refine layy ?_;refine' tkL 28 ?_;refine' tkL 29 ?_;refine wpAnyR_done (by kernel_rfl) ?_ _;intro x1 _ Ex1;clear pr69a pr69b pr69c;have E3:=hZ (E2.out.trans Ex1);have R3:=hZ (R2.out.ext Ex1);have gl2:=(Ex1.cell hlbb (lo+j)).trans gl;have zl:=Nat.lt_of_lt_of_le hlbb Ex1.le;have wsz2:=Nat.le_trans wsz Ex1.le;have RA:=hZ (R3.out.ext (Ext.alloc (Ext.refl _) (.cells #[.int .i64 a] 3)));have FL3:=F3.out.len HW.out HT.out;have eF:(Hp.natsI Y2).length=Y2.length:=Hp.natsI_len Y2
           go_wp2_with (at_builtin;rw [<- Hp.natsI_len Y2];refine wpList_append_int rfl _ _ rfl (y:=(a:Int)) rfl rfl RA.out (by go_simp) (by omega) (by omega) (by omega) (by simp;omega) ?_;intro g8 c8 x8 hR8 hG8;obtain ⟨row,hgr,hrow⟩:=id hG8;have E8:Ext w1 x8:=ext_grow (E3.out.alloc _) hgr hrow;have R8H:=hZ hR8)
           go_roundg (m-(j+1))
           case measure=>omega
           case rel=>exact ⟨j+1,Y2 ++ [a],some ⟨g8,0,none⟩,c8,by omega,Nat.le_refl _,by simp;omega,by simp [Hp.natsI_len],by go_num,hZ (fun e=>by simp at e;omega),F3,hZ (by rw [Hp.natsI_app];exact R8H.out),hZ E8⟩
         have KID:=hZ (fun W (hW:Ext wr W)=>rKid (H.out.ext (EW.out.trans hW)) HW.out HY2.out (SR.out.ext hW) (a:=a) (b:=false) ⟨fun e=>(by cases e),fun e=>absurd e hkd⟩);have S2:Hid (Y2.length=yl->Hp.ShutTo S Y2 (j+1)):=hZ (fun e i z hi hz hwz=>by
          by_cases e':i=j
          . subst e';rw [HAJ.out] at hz
            cases hz
            rcases hwz with q | q
            . rw [HV.out] at q;exact absurd q HPOS.out
            exact absurd q hkd
          . exact SH.out e i z (by omega) hz hwz)
         clear hkd
         go_wp2_with fail
         have pr70a:=fun u_ (h_:Ext wr u_)=>(h_.cell zb 2).trans c2w
         have pr70b:=fun u_ (h_:Ext wr u_)=>(h_.cell hlbb (lo+j)).trans gl
         have pr70c:=fun u_ (h_:Ext wr u_)=>(h_.cell zg (r.go+(a+2))).trans gw
         refine wp_region_seq (S:=fun W=>Ext wr W) (R:=Ext) (by kernel_rfl) Ext.refl ?_ ?_
         . exact exx
         refine' tkL 0 ?_;refine' tkL 1 ?_;refine' tkL 2 ?_;refine' tkL 3 ?_;refine' tkL 4 ?_;refine' tkR 5 (v:=.bool false) rfl (Or.inr ⟨by rfl,85,_, ?hx5_96, ?hy5_96⟩) ?rest5_96
         case hx5_96=>(intro w hSw;go_simp;try with_reducible rfl)
         case hy5_96=>exact fun w hE=>(HAS.out _ hE).mono (fun _ _ h=>⟨h.1,h.2,Ext.trans hE h.2⟩)
         refine layy ?_;refine' tkL 6 ?_;refine' tkL 7 ?_;refine' tkL 8 ?_;refine' tkL 9 ?_;refine' tkL 10 ?_;refine' tkL 11 ?_;refine' tkL 12 ?_;refine' tkL 13 ?_;refine' tkL 14 ?_;refine' tkL 15 ?_;refine' tkL 16 ?_;refine' tkL 17 ?_;refine' tkL 18 ?_;refine' tkL 19 ?_;refine' tkL 20 ?_;refine' tkL 21 ?_;refine' tkL 22 ?_;refine' tkL 23 ?_;refine' tkL 24 ?_;refine' tkL 25 ?_;refine' tkL 26 ?_;refine' tkR 27 (v:=.bool false) rfl (Or.inr ⟨by rfl,140,_, ?hx27_118, ?hy27_118⟩) ?rest27_118
         case hx27_118=>(intro w hSw;go_simp;try with_reducible rfl)
         case hy27_118=>exact fun w hE=>(KID.out _ hE).mono (fun _ _ h=>⟨h.1,h.2,Ext.trans hE h.2⟩)
         refine layy ?_;refine' tkL 28 ?_;refine' tkL 29 ?_;refine wpAnyR_done (by kernel_rfl) ?_ _;intro x1 _ Ex1;clear pr70a pr70b pr70c;have E3:=hZ (E2.out.trans Ex1);have R3:=hZ (R2.out.ext Ex1)
         go_wp2_with fail
         go_roundg (m-(j+1))
         case measure=>omega
         case rel=>exact ⟨j+1,Y2,p3,c3,by omega,Nat.le_refl _,hy2,rfl,by go_num,S2,F2,R3,E3⟩
      have:j=m:=by omega
      subst this;have tk:decide ((j:Int) < (j:Int))=false:=dF
      go_wp2_with fail
      go_roundg (2 * (j-yl))
      case measure=>omega
      case rel=>exact ⟨Y2,(yl:Int),p3,c3,by omega,fun q=>by omega,by omega,rfl,rfl,hZ (fun e=>SH.out (by omega)),F2,R2,E2⟩
   have tk:decide (k < (yl:Int))=false:=decide_eq_false hkl;have FIN:=hZ (F.out.fin HW.out HT.out (by rw [EM.out];exact SH.out (by rw [EY.out];omega)))
   go_wp2_with fail
   go_returns;exact ⟨Y,p2,cp2,w1.heap.size,by rw [EY.out];rfl,E1.out.le,R.out,E1.out.trans E.out,FIN.out.1,FIN.out.2⟩
set_option maxHeartbeats 2000000 in
theorem rNamed (h:SliceAt w p c l) (x:Int) :
    Calls Tryz.prog 146 #[.slice p l.length c,.int .i64 x] w fun e w'=>e = .returned (.int .i64 (Hp.nameOf l x))/\Ext w w':=by
  have hle:=h.le;have hcap:=h.cap;unfold Hp.nameOf
  by_cases h0:0<=x
  . rw [if_pos h0];obtain ⟨i,rfl⟩:∃ i:Nat,x=i:=⟨x.toNat,by omega⟩
    rw [Int.toNat_natCast];have t0:decide ((i:Int) < 0)=false:=dF
    by_cases hi:i < l.length
    . obtain ⟨y,hy⟩:=rd_get hi;obtain ⟨b,o,rfl,hb,hc⟩:=h.cells (by omega);have g:=hc i y hy;have e:l.getD i 0=y:=by
       rw [List.getD_eq_getElem?_getD];unfold Hp.rd at hy;rw [hy];rfl
      rw [e];have t1:decide ((i:Int) ≥ (l.length:Int))=false:=dF;have t2:decide ((l.length:Int)<=(i:Int))=false:=dF;clear h hc hy e h0;generalize l.length=n at *;go_enter Tryz.func146,Tryz.ntmps146
      go_wp2_with fail
      go_returns;exact ⟨rfl,exx⟩
    have e:l.getD i 0=0:=by
     rw [List.getD_eq_getElem?_getD,List.getElem?_eq_none (by omega)];rfl
    rw [e];have t1:decide ((i:Int) ≥ (l.length:Int))=true:=dT;have t2:decide ((l.length:Int)<=(i:Int))=true:=dT;clear h e h0;generalize l.length=n at *;go_enter Tryz.func146,Tryz.ntmps146
    go_wp2_with fail
    go_returns;exact ⟨rfl,exx⟩
  rw [if_neg h0];have t0:decide (x < 0)=true:=dT;clear h;generalize l.length=n at *;go_enter Tryz.func146,Tryz.ntmps146
  go_wp2_with fail
  go_returns;exact ⟨rfl,exx⟩
theorem cutK {P:Program} {c:Code} {Q:Exit->Act->World->Prop} {a:Act} {F:World->Prop} (h:F w) (k:∀ w',F w'->c.wp P Q a w'):c.wp P Q a w:=k w h
structure ExAt (w:World) (g:Nat) (l:List Int):Prop where
 row:w.heap[g]? = some (.cells (ints l).toArray 3 (0,0))
 wf:∀ x ∈ l,-9223372036854775808<=x/\x<=9223372036854775807
namespace ExAt
variable {w w':World} {g:Nat} {l:List Int}
theorem words (h:ExAt w g l):WordsAt w g l:=⟨⟨[],by rw [List.append_nil];exact h.row⟩,h.wf⟩
theorem ofBlock (h:ExAt w g l) (e:w'.heap[g]? = w.heap[g]?):ExAt w' g l:=⟨by rw [e];exact h.row,h.wf⟩
theorem lt (h:ExAt w g l):g < w.heap.size:=h.words.lt
theorem ext (h:ExAt w g l) (k:Ext w w'):ExAt w' g l:=h.ofBlock (k.block g h.lt)
theorem set (h:ExAt w g l) {v:Int} (hj:j < l.length) (h1 : -9223372036854775808<=v) (h2:v<=9223372036854775807):ExAt (w.setCell ⟨g,j,none⟩ (.int .i64 v)) g (l.set j v):=by
 refine ⟨?_,fun x hx=>?_⟩
 . rw [setCell_eq_setRow w g j _ _ _ _ h.row,setRow_heap w g _ _ _ _ h.row];simp [ints,List.map_set]
 rcases List.mem_or_eq_of_mem_set hx with hx | rfl
 . exact h.wf x hx
 exact ⟨h1,h2⟩
theorem toRow (h:ExAt w g l) (hb:base<=g) (hn:l.length=n) (hm:n<=1000000):Row w base (some ⟨g,0,none⟩) n l:=
 ⟨⟨by simp [ints],.inr ⟨g,n,_,by rw [hn],hb,h.row,by omega,by unfold maxLen;omega,by simp [ints,hn],by simp [ints,List.take_of_length_le]⟩⟩,h.wf⟩
theorem made (w:World) (n g:Nat) (hg:g=w.heap.size):ExAt (w.alloc (.cells (madeCells #[.int .i64 0] n) 3)) g (List.replicate n 0):=by
 subst hg
 refine ⟨?_,fun x hx=>by rw [List.eq_of_mem_replicate hx];omega⟩
 rw [heap_new]
 congr 2
 apply Array.ext
 . simp [ints,size_madeCells]
 intro i h1 h2
 have hi:i < n:=by simpa [size_madeCells] using h1
 simp [madeCells,ints,hi,Nat.mod_one]
end ExAt
set_option maxRecDepth 100000 in
set_option maxHeartbeats 8000000 in
theorem rKept {p3:Option Addr} {c1 c2 c3:Nat} {Y P:List Int} (h1:SliceAt w p1 c1 A) (h2:SliceAt w p2 c2 Y) (h3:SliceAt w p3 c3 P) (hA:A.length<=1000000) (hP:P.length<=1000000) :
    Calls Tryz.prog 95 #[.slice p1 A.length c1,.slice p2 Y.length c2,.slice p3 P.length c3] w (ListPost w (A.map (Hp.keptF Y P))):=by
  have H1:=hZ h1;have H2:=hZ h2;have H3:=hZ h3;have le1:=h1.le;have cp1:=h1.cap;have le3:=h3.le;have cp3:=h3.cap;obtain ⟨n,hn⟩:∃ n,A.length=n:=⟨_,rfl⟩
  have EN:=hZ hn;obtain ⟨m,hm⟩:∃ m,P.length=m:=⟨_,rfl⟩
  have EM:=hZ hm;have HAS:=hZ (fun x (b:Bool) (hb:Y.contains x=b) W (hW:Ext w W)=>rHas_is hb (h2.ext hW));rw [hn] at hA le1 ⊢;rw [hm] at hP le3 ⊢;generalize Y.length=yl at *;clear h1 h2 h3 hn hm;have hmk:=run_make_row' (P:=Tryz.prog) 22 3 (.int .i64 0) 8 Tryz.underlying22 (show (Tryz.prog.info? 3).map (fun i=>(i.zero,i.size,i.bytes))=some (some (.int .i64 0),1,8) from by kernel_rfl) rfl .i64 .i64 n (by omega) (by omega);go_enter Tryz.func95,Tryz.ntmps95;go_upto_region 2 with fail
  have E0:=hZ (show Ext w (w.alloc (.cells (madeCells #[.int .i64 0] n) 3)) from Ext.alloc (Ext.refl _) _);have O0:=hZ (ExAt.made w n _ rfl);generalize w.alloc (.cells (madeCells #[.int .i64 0] n) 3)=w0 at E0 O0 ⊢;obtain ⟨go,hgo⟩:∃ go,w.heap.size=go:=⟨_,rfl⟩
  have EGO:=hZ hgo;rw [hgo] at O0 ⊢;clear hgo hmk
  go_wp2_with fail
  go_loopg [8] n (fun g i wr=>∃ j:Nat,j<=n/\n-j<=g/\i = .int .i64 j/\Hid (ExAt wr go (Hp.fillL (Hp.keptF Y P) A j))/\Hid (Ext w wr))
  case atStart=>exact ⟨0,Nat.zero_le _,by omega,rfl,hZ (by rw [Hp.fillL_zero,EN.out];exact O0.out),E0⟩
  case round=>
   obtain ⟨j,hj,hg,rfl,O,E⟩:=hrel;clear O0 E0
   by_cases hlt:j < n
   . obtain ⟨x,hx⟩:=rd_get (l:=A) (j:=j) (by rw [EN.out];exact hlt);obtain ⟨b1,o1,hp1,hb1,hc1⟩:=H1.out.cells (by rw [EN.out];omega);have g1:=hc1 j x hx;have bx:=H1.out.wf x (List.mem_of_getElem? hx);have gx:=(E.out.cell hb1 (o1+j)).trans g1;have tk:decide ((j:Int) < (n:Int))=true:=dT;obtain ⟨bt,hbt⟩:∃ bt,Y.contains x=bt:=⟨_,rfl⟩
     have HS:=hZ (HAS.out x bt hbt wr E.out);have fl:=Hp.fillL_len (f:=Hp.keptF Y P) (A:=A) (j:=j) (by rw [EN.out];omega);rw [EN.out] at fl;have HX:=hZ hx;have HBT:=hZ hbt;have FLN:=hZ fl;clear hc1 hx hbt fl;subst hp1
     cases bt with
     | false=>
      have O2:=hZ (show ExAt wr go (Hp.fillL (Hp.keptF Y P) A (j+1)) by rw [Hp.fillL_skip HX.out (by unfold Hp.keptF;rw [HBT.out];rfl)];exact O.out)
      go_wp2_with (go_at_call 85;refine (HS.out).mono ?_;rintro e w4 ⟨rfl,hb4⟩;obtain ⟨hc4,hf4,hs4⟩:=hb4.cells)
      go_roundg (n-(j+1))
      case measure=>omega
      case rel=>exact ⟨j+1,by omega,Nat.le_refl _,by go_num,hZ (O2.out.ext hb4),hZ (E.out.trans hb4)⟩
     | true=>
      have KF:=hZ (show Hp.keptF Y P x=Hp.scanP (P.drop 0) x x by unfold Hp.keptF;rw [HBT.out];rfl);go_upto_region 6 with (go_at_call 85;refine (HS.out).mono ?_;rintro e w4 ⟨rfl,hb4⟩;obtain ⟨hc4,hf4,hs4⟩:=hb4.cells)
      have O4:=hZ (O.out.ext hb4);have E4:=hZ (E.out.trans hb4);have gx4:=(E4.out.cell hb1 (o1+j)).trans g1;have gz:=O4.out.words.get (j:=j) (x:=_) (Hp.rd_ow (by rw [FLN.out];exact hlt));have fr:=O4.out.words.froz j;have zo:=O4.out.lt;have KB:But [go] w4 (w4.setCell ⟨go,j,none⟩ (.int .i64 x)):=(But.refl _ _).setCell (by simp) _;have O5:=hZ (O4.out.set (j:=j) (v:=x) (by rw [FLN.out];exact hlt) bx.1 bx.2)
      have E5 := Lib.hid (KB.toExt E4.out (fun b hb => by have : b = go := by simpa using hb
                                                          have:=EGO.out;omega))
      clear gx hb4 hc4 hf4 hs4 O E KB;go_upto_region 7 with fail
      refine cutK (F:=fun W=>Hid (ExAt W go ((Hp.fillL (Hp.keptF Y P) A j).set j x))/\Hid (Ext w W)) ⟨O5,E5⟩ ?_;rintro w6 ⟨O6,E6⟩;clear O5 E5 gz fr zo gx4 O4 E4
      go_wp2_with fail
      go_loopg [9] m (fun g i wr=>∃ (k:Nat) (cur:Int),m-k<=g/\k<=m+1/\i = .int .i64 k /\ -9223372036854775808<=cur/\cur<=9223372036854775807/\Hid (Hp.scanP (P.drop k) x cur=Hp.keptF Y P x)/\Hid (ExAt wr go ((Hp.fillL (Hp.keptF Y P) A j).set j cur))/\Hid (Ext w wr))
      case atStart=>exact ⟨0,x,by omega,by omega,rfl,bx.1,bx.2,hZ KF.out.symm,O6,E6⟩
      case round=>
       obtain ⟨k,cur,hgk,hkm,rfl,bc1,bc2,SC,O,E⟩:=hrel;clear O6 E6
       by_cases hk:k+1 < m
       . obtain ⟨a,ha⟩:=rd_get (l:=P) (j:=k) (by rw [EM.out];omega);obtain ⟨b,hb⟩:=rd_get (l:=P) (j:=k+1) (by rw [EM.out];omega);obtain ⟨b3,o3,hp3,hb3,hc3⟩:=H3.out.cells (by rw [EM.out];omega);have ga3:=(E.out.cell hb3 (o3+k)).trans (hc3 k a ha);have gb3:=(E.out.cell hb3 (o3+(k+1))).trans (hc3 (k+1) b hb);have bb:=H3.out.wf b (List.mem_of_getElem? hb);have gx:=(E.out.cell hb1 (o1+j)).trans g1;have SC2:=hZ (SC.out.symm.trans (Hp.scanP_step ha hb));have z1:=Nat.lt_of_lt_of_le hb1 E.out.le;have z3:=Nat.lt_of_lt_of_le hb3 E.out.le;have wk:IntKind.i64.wrap ((k:Int)+1)=(k:Int)+1:=IntWalk.i64_in _ (by omega);have tk2:decide ((k:Int)+1 < (m:Int))=true:=dT;have km:k < m:=by omega
         clear hc3 ha hb;subst hp3
         by_cases hax:a=x
         . subst hax;have t0:(a == a)=true:=by simp
           have SC3:=hZ (show Hp.scanP (P.drop (k+2)) a b=Hp.keptF Y P a by have:=SC2.out;rw [if_pos rfl] at this;exact this.symm)
           go_wp2_with fail
           have pr71a:=fun u_ (h_:Ext wr u_)=>(h_.cell z1 (o1+j)).trans gx
           have pr71b:=fun u_ (h_:Ext wr u_)=>(h_.cell z3 (o3+k)).trans ga3
           refine wp_region_seq (S:=fun W=>Ext wr W) (R:=Ext) (by kernel_rfl) Ext.refl ?_ ?_
           . exact exx
           refine' tkL 0 ?_;refine' tkL 1 ?_;refine' tkL 2 ?_;refine' tkL 3 ?_;refine' tkL 4 ?_;refine' tkL 5 ?_;refine' tkL 6 ?_;refine' tkL 7 ?_;refine' tkL 8 ?_;refine wpAnyR_done (by kernel_rfl) ?_ _;intro x1 _ Ex1;clear pr71a pr71b;have OO:=hZ (O.out.ext Ex1);have EE:=hZ (E.out.trans Ex1);have gb4:=(Ex1.cell z3 (o3+(k+1))).trans gb3;have gz:=OO.out.words.get (j:=j) (x:=_) (Hp.rd_ow (by simp;rw [FLN.out];exact hlt));have fr:=OO.out.words.froz j;have zo:=OO.out.lt;have KB:But [go] x1 (x1.setCell ⟨go,j,none⟩ (.int .i64 b)):=(But.refl _ _).setCell (by simp) _;have O5:=hZ (show ExAt (x1.setCell ⟨go,j,none⟩ (.int .i64 b)) go ((Hp.fillL (Hp.keptF Y P) A j).set j b) by
            have:=OO.out.set (j:=j) (v:=b) (by simp;rw [FLN.out];exact hlt) bb.1 bb.2;rw [List.set_set] at this;exact this)
           have E5 := Lib.hid (KB.toExt EE.out (fun b hb => by have : b = go := by simpa using hb
                                                               have:=EGO.out;omega))
           obtain ⟨y1,y2,y3,y4⟩:IntKind.i64.wrap (((k:Nat):Int)+1)=((k:Nat):Int)+1/\(0:Int)<=((k:Nat):Int)+1/\((k:Nat):Int)+1 < ((m:Nat):Int)/\(((k:Nat):Int)+1).toNat=k+1:=⟨IntWalk.i64_in _ (by omega),by omega,by omega,by omega⟩
           clear KB gx ga3 gb3
           go_wp2_with fail
           go_roundg (m-(k+2))
           case measure=>omega
           case rel=>exact ⟨k+2,b,Nat.le_refl _,by omega,by go_num,bb.1,bb.2,SC3,O5,E5⟩
         have t0:(a == x)=false:=by simpa using hax
         have SC3:=hZ (show Hp.scanP (P.drop (k+2)) x cur=Hp.keptF Y P x by have:=SC2.out;rw [if_neg hax] at this;exact this.symm);clear hax
         go_wp2_with fail
         have pr72a:=fun u_ (h_:Ext wr u_)=>(h_.cell z1 (o1+j)).trans gx
         have pr72b:=fun u_ (h_:Ext wr u_)=>(h_.cell z3 (o3+k)).trans ga3
         refine wp_region_seq (S:=fun W=>Ext wr W) (R:=Ext) (by kernel_rfl) Ext.refl ?_ ?_
         . exact exx
         refine' tkL 0 ?_;refine' tkL 1 ?_;refine' tkL 2 ?_;refine' tkL 3 ?_;refine' tkL 4 ?_;refine' tkL 5 ?_;refine' tkL 6 ?_;refine' tkL 7 ?_;refine' tkL 8 ?_;refine wpAnyR_done (by kernel_rfl) ?_ _;intro x1 _ Ex1;clear pr72a pr72b;have OO:=hZ (O.out.ext Ex1);have EE:=hZ (E.out.trans Ex1)
         go_wp2_with fail
         go_roundg (m-(k+2))
         case measure=>omega
         case rel=>exact ⟨k+2,cur,Nat.le_refl _,by omega,by go_num,bc1,bc2,SC3,OO,EE⟩
       have tk2:decide ((k:Int)+1 < (m:Int))=false:=dF;have ec:cur=Hp.keptF Y P x:=by rw [<- SC.out,Hp.scanP_end (by rw [EM.out];omega)]
       have O2:=hZ (show ExAt wr go (Hp.fillL (Hp.keptF Y P) A (j+1)) by rw [<- Hp.fillL_set HX.out,<- ec];exact O.out);clear ec
       go_wp2_with fail
       go_roundg (n-(j+1))
       case measure=>omega
       case rel=>exact ⟨j+1,by omega,Nat.le_refl _,by go_num,O2,E⟩
   have:j=n:=by omega
   subst this;have tk:decide ((j:Int) < (j:Int))=false:=dF;have eF:Hp.fillL (Hp.keptF Y P) A j=A.map (Hp.keptF Y P):=by rw [<- EN.out];exact Hp.fillL_all _ _
   have OF:=hZ (show ExAt wr go (A.map (Hp.keptF Y P)) by rw [<- eF];exact O.out);clear eF
   go_wp2_with fail
   go_returns;exact ⟨some ⟨go,0,none⟩,j,by rw [List.length_map,EN.out];rfl,OF.out.toRow (by have:=EGO.out;omega) (by rw [List.length_map];exact EN.out) hA,E.out⟩
open Go.RowKit Go.Maps
namespace Hp
def rdo (S:Hs) (A:List Int) (x:Act'):Option (Int × Int × Int × Hs):=
 if x.kind=1 then do
  let (r,e,S) <- S.end' x.fault x.n
  some (r,r,e,S)
 else if x.kind=2 \/ x.kind=3 then
  if (x.list.map (nameOf A)).contains 0 then some (0,0,7,S) else
  if x.kind=2 then do
   let (r,e,S) <- S.make x.a (x.list.map (nameOf A))
   some (r,r,e,S)
  else do
   let (r,e) <- S.find x.a (x.list.map (nameOf A))
   some (r,r,e,S)
 else if x.kind=4 \/ x.kind=5 then
  if nameOf A x.a=0 then some (0,0,7,S) else
  if x.kind=4 then do
   let (e,S) <- S.hold (nameOf A x.a)
   some (0,0,e,S)
  else do
   let (e,S) <- S.drop (nameOf A x.a)
   some (0,0,e,S)
 else if x.kind=6 \/ x.kind=7 then some (0,0,0,S)
 else some (0,0,7,S)
end Hp
set_option maxRecDepth 100000 in
set_option maxHeartbeats 8000000 in
theorem rdo_end {ch:Nat->List Nat} (h:RW w r S) (hw:Hp.Wf S B L ch) {x:Hp.Act'} (hk:x.kind=1) (hf:x.fault=f) (hf2:f < 256) (hn1 : -9223372036854775808<=x.n) (hn2:x.n<=9223372036854775807)
    {n at_ e0:Int} {S':Hp.Hs} (hr:Hp.rdo S A x=some (n,at_,e0,S')) :
    Calls Tryz.prog 94 #[.pointer (some ⟨r.rb,0,none⟩),actV x p c f,.slice pa A.length ca] w (RTurned r w (.tuple #[.int .i64 n,.int .i64 at_,.int .i64 e0]) S'):=by
  unfold Hp.rdo at hr;rw [if_pos hk,hf] at hr;simp only [Option.bind_eq_bind,Option.bind_eq_some_iff,Option.some.injEq,Prod.mk.injEq] at hr;obtain ⟨y,hy,rfl,rfl,rfl,rfl⟩:=hr;have H1:=hZ ((RNow.refl h).ext (Ext.alloc (Ext.refl w) (.cells #[.int .u8 1,.int .i64 x.a,.slice p x.list.length c,.int .u8 f,.int .i64 x.n] 85)));have HW:=hZ hw;have HY:=hZ hy;unfold actV;rw [hk];generalize A.length=na at *;clear h hw hy hk;go_enter Tryz.func94,Tryz.ntmps94
  go_wp2_with (go_at_call 112;refine (rEnd H1.out.toRW HW.out hf2 hn1 hn2 HY.out).mono ?_;rintro e w3 ⟨rfl,hN⟩)
  go_returns;exact ⟨rfl,H1.out.trans hN⟩
set_option maxRecDepth 100000 in
set_option maxHeartbeats 8000000 in
theorem rdo_make {ch:Nat->List Nat} (h:RW w r S) (hw:Hp.Wf S B L ch) {x:Hp.Act'} (hk:x.kind=2) (hA:SliceAt w pa ca A) (hs:SliceAt w p c x.list) (hll:x.list.length<=1000) (ha1 : -9223372036854775808<=x.a) (ha2:x.a<=9223372036854775807)
    {n at_ e0:Int} {S':Hp.Hs} (hr:Hp.rdo S A x=some (n,at_,e0,S')) :
    Calls Tryz.prog 94 #[.pointer (some ⟨r.rb,0,none⟩),actV x p c f,.slice pa A.length ca] w (RTurned r w (.tuple #[.int .i64 n,.int .i64 at_,.int .i64 e0]) S'):=by
  unfold Hp.rdo at hr;rw [if_neg (by omega),if_pos (by omega)] at hr;simp only [hk,if_true] at hr;have HW:=hZ hw;have HR:=hZ hr;have own:=hZ h.own_lt;have H1:=hZ ((RNow.refl h).ext (Ext.alloc (Ext.refl w) (.cells #[.int .u8 2,.int .i64 x.a,.slice p x.list.length c,.int .u8 f,.int .i64 x.n] 85)));have HS:=hZ (hs.ext (Ext.alloc (Ext.refl w) (.cells #[.int .u8 2,.int .i64 x.a,.slice p x.list.length c,.int .u8 f,.int .i64 x.n] 85)));have HA:=hZ (hA.ext (Ext.alloc (Ext.refl w) (.cells #[.int .u8 2,.int .i64 x.a,.slice p x.list.length c,.int .u8 f,.int .i64 x.n] 85)));have b0:(w.alloc (.cells #[.int .u8 2,.int .i64 x.a,.slice p x.list.length c,.int .u8 f,.int .i64 x.n] 85)).cell? ⟨w.heap.size,0,none⟩=some (.int .u8 2):=by simp [go_sem]
  have b1:(w.alloc (.cells #[.int .u8 2,.int .i64 x.a,.slice p x.list.length c,.int .u8 f,.int .i64 x.n] 85)).cell? ⟨w.heap.size,1,none⟩=some (.int .i64 x.a):=by simp [go_sem]
  have b2:(w.alloc (.cells #[.int .u8 2,.int .i64 x.a,.slice p x.list.length c,.int .u8 f,.int .i64 x.n] 85)).cell? ⟨w.heap.size,2,none⟩=some (.slice p x.list.length c):=by simp [go_sem]
  unfold actV;rw [hk];have WSZ:=hZ (show w.heap.size<=(w.alloc (.cells #[.int .u8 2,.int .i64 x.a,.slice p x.list.length c,.int .u8 f,.int .i64 x.n] 85)).heap.size from (Ext.alloc (Ext.refl w) _).le);have NWF:=hZ (fun v=>nameOf_wf hA.wf v);have sle:=hs.le;have scap:=hs.cap;obtain ⟨m,hm⟩:∃ m,x.list.length=m:=⟨_,rfl⟩
  have EM:=hZ hm;obtain ⟨na,hna⟩:∃ na,A.length=na:=⟨_,rfl⟩
  have NAM:Hid (∀ v W,Ext (w.alloc (.cells #[.int .u8 2,.int .i64 x.a,.slice p x.list.length c,.int .u8 f,.int .i64 x.n] 85)) W->Calls Tryz.prog 146 #[.slice pa na ca,.int .i64 v] W fun e w'=>e = .returned (.int .i64 (Hp.nameOf A v))/\Ext W w'):=hZ (fun v W hW=>by
   have:=rNamed (HA.out.ext hW) v;rw [hna] at this;exact this)
  rw [hm] at sle hll H1 HS HA b0 b1 b2 NAM WSZ ⊢;rw [hna];clear h hw hr hs hA hk hm hna HA;go_enter Tryz.func94,Tryz.ntmps94;go_upto_region 7 with fail
  generalize w.alloc (.cells #[.int .u8 2,.int .i64 x.a,.slice p m c,.int .u8 f,.int .i64 x.n] 85)=w1 at H1 HS b0 b1 b2 NAM WSZ ⊢;obtain ⟨bx,hbx⟩:∃ bx,w.heap.size=bx:=⟨_,rfl⟩
  have EBX:=hZ hbx;rw [hbx] at b0 b1 b2 ⊢;have zb:=cell_lt b0;clear hbx
  go_wp2_with fail
  go_loopg [11,12] m (fun g o i wr=>∃ (j:Nat) (p3:Option Addr) (c3:Nat),j<=m/\m-j<=g/\o = .slice p3 ((x.list.take j).map (Hp.nameOf A)).length c3/\i = .int .i64 j/\Hid (((x.list.take j).map (Hp.nameOf A)).contains 0=false)/\Hid (Row wr w1.heap.size p3 c3 ((x.list.take j).map (Hp.nameOf A)))/\Hid (Ext w1 wr))
  case atStart=>exact ⟨0,none,0,Nat.zero_le _,by omega,by simp,rfl,hZ (by simp),hZ (Row.nil _ _),hZ (Ext.refl _)⟩
  case round=>
   obtain ⟨j,p3,c3,hj,hg,rfl,rfl,NZ,R,E⟩:=hrel;have b0w:=(E.out.cell zb 0).trans b0;have b1w:=(E.out.cell zb 1).trans b1;have b2w:=(E.out.cell zb 2).trans b2;have PL:=hZ (show ((x.list.take j).map (Hp.nameOf A)).length=j by simp [List.length_take,EM.out];omega)
   by_cases hlt:j < m
   . obtain ⟨v,hv⟩:=rd_get (l:=x.list) (j:=j) (by rw [EM.out];exact hlt);obtain ⟨lb,lo2,hlp,hlb,hlc⟩:=HS.out.cells (by rw [EM.out];omega);have gl:=(E.out.cell hlb (lo2+j)).trans (hlc j v hv);have tk:decide ((j:Int) < (m:Int))=true:=dT;have es:(x.list.take (j+1)).map (Hp.nameOf A)=(x.list.take j).map (Hp.nameOf A) ++ [Hp.nameOf A v]:=by
      obtain ⟨hl',rfl⟩:=List.getElem?_eq_some_iff.1 hv;rw [List.take_succ_eq_append_getElem hl',List.map_append];rfl
     have hin:Hp.nameOf A v ∈ x.list.map (Hp.nameOf A):=List.mem_map.2 ⟨v,List.mem_of_getElem? hv,rfl⟩;have NV:=hZ (fun W hW=>NAM.out v W hW);have nwf:=NWF.out v;obtain ⟨y,hy⟩:∃ y,Hp.nameOf A v=y:=⟨_,rfl⟩
     rw [hy] at es hin NV nwf;have ES:=hZ es;obtain ⟨PJ,hPJ⟩:∃ PJ,(x.list.take j).map (Hp.nameOf A)=PJ:=⟨_,rfl⟩
     rw [hPJ] at R PL NZ ES ⊢;clear es hv hlc hy hPJ;subst hlp
     by_cases h0:y=0
     . subst h0;have HR2:=HR.out;rw [if_pos (by simpa using hin)] at HR2;simp only [Option.some.injEq,Prod.mk.injEq] at HR2;obtain ⟨rfl,rfl,rfl,rfl⟩:=HR2;clear hin
       go_wp2_with (go_at_call 146;refine (NV.out _ E.out).mono ?_;rintro e w4 ⟨rfl,hb4⟩;obtain ⟨hc4,hf4,hs4⟩:=hb4.cells)
       go_returns;exact ⟨rfl,H1.out.ext (E.out.trans hb4)⟩
     have t0:(y == 0)=false:=by simpa using h0
     have NZ2:=hZ (show ((x.list.take (j+1)).map (Hp.nameOf A)).contains 0=false by
      rw [ES.out];have:=NZ.out;simp only [List.contains_eq_mem,decide_eq_false_iff_not] at this ⊢;simp only [List.mem_append,List.mem_singleton];exact fun hm=>hm.elim this (fun e=>h0 e.symm))
     clear hin h0;go_upto_region 13 with (go_at_call 146;refine (NV.out _ E.out).mono ?_;rintro e w4 ⟨rfl,hb4⟩;obtain ⟨hc4,hf4,hs4⟩:=hb4.cells)
     have E4:=hZ (E.out.trans hb4);have gl4:=(hb4.cell (Nat.lt_of_lt_of_le hlb E.out.le) (lo2+j)).trans gl;have b24:=(hb4.cell (Nat.lt_of_lt_of_le zb E.out.le) 2).trans b2w;have R4:=hZ (R.out.ext hb4);have wsz:w1.heap.size<=w4.heap.size:=E4.out.le;clear gl b0w b1w b2w hc4 hf4 hs4 R E hb4
     go_wp2_with (first
      | (go_at_call 146;refine (NV.out _ E4.out).mono ?_;rintro e w5 ⟨rfl,hb5⟩;obtain ⟨hc5,hf5,hs5⟩:=hb5.cells;have R5:=hZ ((R4.out.ext hb5).ext (Ext.alloc (Ext.refl _) (.cells #[.int .i64 y] 3)));have E5:=hZ (E4.out.trans hb5))
      | (at_builtin;refine wpList_append_int rfl _ _ rfl (y:=y) rfl rfl R5.out (by go_simp) (by omega) (by omega) (by have:=PL.out;omega) (by have:=E5.out.le;simp;omega) ?_;intro g8 c8 x8 hR8 hG8;obtain ⟨row,hgr,hrow⟩:=id hG8;have E8:Ext w1 x8:=ext_grow (E5.out.alloc _) hgr hrow;have R8H:=hZ hR8))
     go_roundg (m-(j+1))
     case measure=>omega
     case rel=>exact ⟨j+1,some ⟨g8,0,none⟩,c8,by omega,Nat.le_refl _,by rw [ES.out];simp,by go_num,NZ2,hZ (by rw [ES.out];exact R8H.out),hZ E8⟩
   have:j=m:=by omega
   subst this;have tk:decide ((j:Int) < (j:Int))=false:=dF;have eT:x.list.take j=x.list:=List.take_of_length_le (by rw [EM.out];exact Nat.le_refl _);rw [eT] at NZ R PL ⊢;have HR2:=HR.out;obtain ⟨KL,hKL⟩:∃ KL,x.list.map (Hp.nameOf A)=KL:=⟨_,rfl⟩
   rw [hKL] at NZ R PL HR2 ⊢;clear hKL;rw [if_neg (by rw [NZ.out];simp)] at HR2;simp only [Option.bind_eq_bind,Option.bind_eq_some_iff,Option.some.injEq,Prod.mk.injEq] at HR2;obtain ⟨y,hx,rfl,rfl,rfl,rfl⟩:=HR2;have HX:=hZ hx;have RH:=hZ R.out.at_;have FAR:=hZ (show ∀ b o,p3=some ⟨b,o,none⟩->b ∉ r.own from fun b o e hm=>by
    have h1:=R.out.far e;have h2:=own.out b hm;have:=WSZ.out;omega)
   have N1:=hZ (H1.out.ext E.out);clear hx R
   go_wp2_with (go_at_call 114;refine (rMake N1.out.toRW HW.out RH.out FAR.out ha1 ha2 HX.out).mono ?_;rintro e w3 ⟨rfl,hN⟩)
   go_returns;exact ⟨rfl,N1.out.trans hN⟩
set_option maxRecDepth 100000 in
set_option maxHeartbeats 8000000 in
theorem rdo_find {ch:Nat->List Nat} (h:RW w r S) (hw:Hp.Wf S B L ch) {x:Hp.Act'} (hk:x.kind=3) (hA:SliceAt w pa ca A) (hs:SliceAt w p c x.list) (hll:x.list.length<=1000) (ha1 : -9223372036854775808<=x.a) (ha2:x.a<=9223372036854775807)
    {n at_ e0:Int} {S':Hp.Hs} (hr:Hp.rdo S A x=some (n,at_,e0,S')) :
    Calls Tryz.prog 94 #[.pointer (some ⟨r.rb,0,none⟩),actV x p c f,.slice pa A.length ca] w (RTurned r w (.tuple #[.int .i64 n,.int .i64 at_,.int .i64 e0]) S'):=by
  unfold Hp.rdo at hr;rw [if_neg (by omega),if_pos (by omega)] at hr;simp only [hk,show ¬ (3:Int)=2 by decide,if_false] at hr;have HW:=hZ hw;have HR:=hZ hr;have own:=hZ h.own_lt;have H1:=hZ ((RNow.refl h).ext (Ext.alloc (Ext.refl w) (.cells #[.int .u8 3,.int .i64 x.a,.slice p x.list.length c,.int .u8 f,.int .i64 x.n] 85)));have HS:=hZ (hs.ext (Ext.alloc (Ext.refl w) (.cells #[.int .u8 3,.int .i64 x.a,.slice p x.list.length c,.int .u8 f,.int .i64 x.n] 85)));have HA:=hZ (hA.ext (Ext.alloc (Ext.refl w) (.cells #[.int .u8 3,.int .i64 x.a,.slice p x.list.length c,.int .u8 f,.int .i64 x.n] 85)));have b0:(w.alloc (.cells #[.int .u8 3,.int .i64 x.a,.slice p x.list.length c,.int .u8 f,.int .i64 x.n] 85)).cell? ⟨w.heap.size,0,none⟩=some (.int .u8 3):=by simp [go_sem]
  have b1:(w.alloc (.cells #[.int .u8 3,.int .i64 x.a,.slice p x.list.length c,.int .u8 f,.int .i64 x.n] 85)).cell? ⟨w.heap.size,1,none⟩=some (.int .i64 x.a):=by simp [go_sem]
  have b2:(w.alloc (.cells #[.int .u8 3,.int .i64 x.a,.slice p x.list.length c,.int .u8 f,.int .i64 x.n] 85)).cell? ⟨w.heap.size,2,none⟩=some (.slice p x.list.length c):=by simp [go_sem]
  unfold actV;rw [hk];have WSZ:=hZ (show w.heap.size<=(w.alloc (.cells #[.int .u8 3,.int .i64 x.a,.slice p x.list.length c,.int .u8 f,.int .i64 x.n] 85)).heap.size from (Ext.alloc (Ext.refl w) _).le);have NWF:=hZ (fun v=>nameOf_wf hA.wf v);have sle:=hs.le;have scap:=hs.cap;obtain ⟨m,hm⟩:∃ m,x.list.length=m:=⟨_,rfl⟩
  have EM:=hZ hm;obtain ⟨na,hna⟩:∃ na,A.length=na:=⟨_,rfl⟩
  have NAM:Hid (∀ v W,Ext (w.alloc (.cells #[.int .u8 3,.int .i64 x.a,.slice p x.list.length c,.int .u8 f,.int .i64 x.n] 85)) W->Calls Tryz.prog 146 #[.slice pa na ca,.int .i64 v] W fun e w'=>e = .returned (.int .i64 (Hp.nameOf A v))/\Ext W w'):=hZ (fun v W hW=>by
   have:=rNamed (HA.out.ext hW) v;rw [hna] at this;exact this)
  rw [hm] at sle hll H1 HS HA b0 b1 b2 NAM WSZ ⊢;rw [hna];clear h hw hr hs hA hk hm hna HA;go_enter Tryz.func94,Tryz.ntmps94;go_upto_region 7 with fail
  generalize w.alloc (.cells #[.int .u8 3,.int .i64 x.a,.slice p m c,.int .u8 f,.int .i64 x.n] 85)=w1 at H1 HS b0 b1 b2 NAM WSZ ⊢;obtain ⟨bx,hbx⟩:∃ bx,w.heap.size=bx:=⟨_,rfl⟩
  have EBX:=hZ hbx;rw [hbx] at b0 b1 b2 ⊢;have zb:=cell_lt b0;clear hbx
  go_wp2_with fail
  go_loopg [11,12] m (fun g o i wr=>∃ (j:Nat) (p3:Option Addr) (c3:Nat),j<=m/\m-j<=g/\o = .slice p3 ((x.list.take j).map (Hp.nameOf A)).length c3/\i = .int .i64 j/\Hid (((x.list.take j).map (Hp.nameOf A)).contains 0=false)/\Hid (Row wr w1.heap.size p3 c3 ((x.list.take j).map (Hp.nameOf A)))/\Hid (Ext w1 wr))
  case atStart=>exact ⟨0,none,0,Nat.zero_le _,by omega,by simp,rfl,hZ (by simp),hZ (Row.nil _ _),hZ (Ext.refl _)⟩
  case round=>
   obtain ⟨j,p3,c3,hj,hg,rfl,rfl,NZ,R,E⟩:=hrel;have b0w:=(E.out.cell zb 0).trans b0;have b1w:=(E.out.cell zb 1).trans b1;have b2w:=(E.out.cell zb 2).trans b2;have PL:=hZ (show ((x.list.take j).map (Hp.nameOf A)).length=j by simp [List.length_take,EM.out];omega)
   by_cases hlt:j < m
   . obtain ⟨v,hv⟩:=rd_get (l:=x.list) (j:=j) (by rw [EM.out];exact hlt);obtain ⟨lb,lo2,hlp,hlb,hlc⟩:=HS.out.cells (by rw [EM.out];omega);have gl:=(E.out.cell hlb (lo2+j)).trans (hlc j v hv);have tk:decide ((j:Int) < (m:Int))=true:=dT;have es:(x.list.take (j+1)).map (Hp.nameOf A)=(x.list.take j).map (Hp.nameOf A) ++ [Hp.nameOf A v]:=by
      obtain ⟨hl',rfl⟩:=List.getElem?_eq_some_iff.1 hv;rw [List.take_succ_eq_append_getElem hl',List.map_append];rfl
     have hin:Hp.nameOf A v ∈ x.list.map (Hp.nameOf A):=List.mem_map.2 ⟨v,List.mem_of_getElem? hv,rfl⟩;have NV:=hZ (fun W hW=>NAM.out v W hW);have nwf:=NWF.out v;obtain ⟨y,hy⟩:∃ y,Hp.nameOf A v=y:=⟨_,rfl⟩
     rw [hy] at es hin NV nwf;have ES:=hZ es;obtain ⟨PJ,hPJ⟩:∃ PJ,(x.list.take j).map (Hp.nameOf A)=PJ:=⟨_,rfl⟩
     rw [hPJ] at R PL NZ ES ⊢;clear es hv hlc hy hPJ;subst hlp
     by_cases h0:y=0
     . subst h0;have HR2:=HR.out;rw [if_pos (by simpa using hin)] at HR2;simp only [Option.some.injEq,Prod.mk.injEq] at HR2;obtain ⟨rfl,rfl,rfl,rfl⟩:=HR2;clear hin
       go_wp2_with (go_at_call 146;refine (NV.out _ E.out).mono ?_;rintro e w4 ⟨rfl,hb4⟩;obtain ⟨hc4,hf4,hs4⟩:=hb4.cells)
       go_returns;exact ⟨rfl,H1.out.ext (E.out.trans hb4)⟩
     have t0:(y == 0)=false:=by simpa using h0
     have NZ2:=hZ (show ((x.list.take (j+1)).map (Hp.nameOf A)).contains 0=false by
      rw [ES.out];have:=NZ.out;simp only [List.contains_eq_mem,decide_eq_false_iff_not] at this ⊢;simp only [List.mem_append,List.mem_singleton];exact fun hm=>hm.elim this (fun e=>h0 e.symm))
     clear hin h0;go_upto_region 13 with (go_at_call 146;refine (NV.out _ E.out).mono ?_;rintro e w4 ⟨rfl,hb4⟩;obtain ⟨hc4,hf4,hs4⟩:=hb4.cells)
     have E4:=hZ (E.out.trans hb4);have gl4:=(hb4.cell (Nat.lt_of_lt_of_le hlb E.out.le) (lo2+j)).trans gl;have b24:=(hb4.cell (Nat.lt_of_lt_of_le zb E.out.le) 2).trans b2w;have R4:=hZ (R.out.ext hb4);have wsz:w1.heap.size<=w4.heap.size:=E4.out.le;clear gl b0w b1w b2w hc4 hf4 hs4 R E hb4
     go_wp2_with (first
      | (go_at_call 146;refine (NV.out _ E4.out).mono ?_;rintro e w5 ⟨rfl,hb5⟩;obtain ⟨hc5,hf5,hs5⟩:=hb5.cells;have R5:=hZ ((R4.out.ext hb5).ext (Ext.alloc (Ext.refl _) (.cells #[.int .i64 y] 3)));have E5:=hZ (E4.out.trans hb5))
      | (at_builtin;refine wpList_append_int rfl _ _ rfl (y:=y) rfl rfl R5.out (by go_simp) (by omega) (by omega) (by have:=PL.out;omega) (by have:=E5.out.le;simp;omega) ?_;intro g8 c8 x8 hR8 hG8;obtain ⟨row,hgr,hrow⟩:=id hG8;have E8:Ext w1 x8:=ext_grow (E5.out.alloc _) hgr hrow;have R8H:=hZ hR8))
     go_roundg (m-(j+1))
     case measure=>omega
     case rel=>exact ⟨j+1,some ⟨g8,0,none⟩,c8,by omega,Nat.le_refl _,by rw [ES.out];simp,by go_num,NZ2,hZ (by rw [ES.out];exact R8H.out),hZ E8⟩
   have:j=m:=by omega
   subst this;have tk:decide ((j:Int) < (j:Int))=false:=dF;have eT:x.list.take j=x.list:=List.take_of_length_le (by rw [EM.out];exact Nat.le_refl _);rw [eT] at NZ R PL ⊢;have HR2:=HR.out;obtain ⟨KL,hKL⟩:∃ KL,x.list.map (Hp.nameOf A)=KL:=⟨_,rfl⟩
   rw [hKL] at NZ R PL HR2 ⊢;clear hKL;rw [if_neg (by rw [NZ.out];simp)] at HR2;simp only [Option.bind_eq_bind,Option.bind_eq_some_iff,Option.some.injEq,Prod.mk.injEq] at HR2;obtain ⟨y,hx,rfl,rfl,rfl,rfl⟩:=HR2;have HX:=hZ hx;have RH:=hZ R.out.at_;have FAR:=hZ (show ∀ b o,p3=some ⟨b,o,none⟩->b ∉ r.own from fun b o e hm=>by
    have h1:=R.out.far e;have h2:=own.out b hm;have:=WSZ.out;omega)
   have N1:=hZ (H1.out.ext E.out);clear hx R
   go_wp2_with (go_at_call 147;refine (rFind N1.out.toRW.at_ HW.out RH.out ha1 ha2 HX.out).mono ?_;rintro e w3 ⟨rfl,hN⟩)
   go_returns;exact ⟨rfl,N1.out.ext hN⟩
set_option maxRecDepth 100000 in
set_option maxHeartbeats 8000000 in
theorem rdo_hold {ch:Nat->List Nat} (h:RW w r S) (hw:Hp.Wf S B L ch) {x:Hp.Act'} (hk:x.kind=4) (hA:SliceAt w pa ca A)
    {n at_ e0:Int} {S':Hp.Hs} (hr:Hp.rdo S A x=some (n,at_,e0,S')) :
    Calls Tryz.prog 94 #[.pointer (some ⟨r.rb,0,none⟩),actV x p c f,.slice pa A.length ca] w (RTurned r w (.tuple #[.int .i64 n,.int .i64 at_,.int .i64 e0]) S'):=by
  unfold Hp.rdo at hr;rw [if_neg (by omega),if_neg (by omega),if_pos (by omega)] at hr;simp only [hk,if_true] at hr;have H1:=hZ ((RNow.refl h).ext (Ext.alloc (Ext.refl w) (.cells #[.int .u8 4,.int .i64 x.a,.slice p x.list.length c,.int .u8 f,.int .i64 x.n] 85)));have b0:(w.alloc (.cells #[.int .u8 4,.int .i64 x.a,.slice p x.list.length c,.int .u8 f,.int .i64 x.n] 85)).cell? ⟨w.heap.size,0,none⟩=some (.int .u8 4):=by simp [go_sem]
  have zb:=cell_lt b0;have NM:=hZ (rNamed (hA.ext (Ext.alloc (Ext.refl w) (.cells #[.int .u8 4,.int .i64 x.a,.slice p x.list.length c,.int .u8 f,.int .i64 x.n] 85))) x.a);have HW:=hZ hw;unfold actV;rw [hk];obtain ⟨y,hy⟩:∃ y,Hp.nameOf A x.a=y:=⟨_,rfl⟩
  rw [hy] at hr NM;obtain ⟨na,hna⟩:∃ na,A.length=na:=⟨_,rfl⟩
  rw [hna] at NM ⊢;clear h hw hk hA hy hna
  by_cases h0:y=0
  . subst h0;rw [if_pos rfl] at hr;simp only [Option.some.injEq,Prod.mk.injEq] at hr;obtain ⟨rfl,rfl,rfl,rfl⟩:=hr;go_enter Tryz.func94,Tryz.ntmps94
    go_wp2_with (go_at_call 146;refine NM.out.mono ?_;rintro e w2 ⟨rfl,E2⟩;have b0':=(E2.cell zb 0).trans b0)
    go_returns;exact ⟨rfl,H1.out.ext E2⟩
  rw [if_neg h0] at hr;simp only [Option.bind_eq_bind,Option.bind_eq_some_iff,Option.some.injEq,Prod.mk.injEq] at hr;obtain ⟨y2,hy2,rfl,rfl,rfl,rfl⟩:=hr;have HY:=hZ hy2;have t0:(y == 0)=false:=by simpa using h0
  clear hy2 h0;go_enter Tryz.func94,Tryz.ntmps94
  go_wp2_with (first
   | (go_at_call 146;refine NM.out.mono ?_;rintro e w2 ⟨rfl,E2⟩;have b0':=(E2.cell zb 0).trans b0)
   | (go_at_call 148;refine (rHold (H1.out.ext E2).toRW HW.out HY.out).mono ?_;rintro e w3 ⟨rfl,hN⟩))
  go_returns;exact ⟨rfl,(H1.out.ext E2).trans hN⟩
set_option maxRecDepth 100000 in
set_option maxHeartbeats 8000000 in
theorem rdo_drop {ch:Nat->List Nat} (h:RW w r S) (hw:Hp.Wf S B L ch) {x:Hp.Act'} (hk:x.kind=5) (hA:SliceAt w pa ca A)
    {n at_ e0:Int} {S':Hp.Hs} (hr:Hp.rdo S A x=some (n,at_,e0,S')) :
    Calls Tryz.prog 94 #[.pointer (some ⟨r.rb,0,none⟩),actV x p c f,.slice pa A.length ca] w (RTurned r w (.tuple #[.int .i64 n,.int .i64 at_,.int .i64 e0]) S'):=by
  unfold Hp.rdo at hr;rw [if_neg (by omega),if_neg (by omega),if_pos (by omega)] at hr;simp only [hk,show ¬ (5:Int)=4 by decide,if_false] at hr;have H1:=hZ ((RNow.refl h).ext (Ext.alloc (Ext.refl w) (.cells #[.int .u8 5,.int .i64 x.a,.slice p x.list.length c,.int .u8 f,.int .i64 x.n] 85)));have b0:(w.alloc (.cells #[.int .u8 5,.int .i64 x.a,.slice p x.list.length c,.int .u8 f,.int .i64 x.n] 85)).cell? ⟨w.heap.size,0,none⟩=some (.int .u8 5):=by simp [go_sem]
  have zb:=cell_lt b0;have NM:=hZ (rNamed (hA.ext (Ext.alloc (Ext.refl w) (.cells #[.int .u8 5,.int .i64 x.a,.slice p x.list.length c,.int .u8 f,.int .i64 x.n] 85))) x.a);have HW:=hZ hw;unfold actV;rw [hk];obtain ⟨y,hy⟩:∃ y,Hp.nameOf A x.a=y:=⟨_,rfl⟩
  rw [hy] at hr NM;obtain ⟨na,hna⟩:∃ na,A.length=na:=⟨_,rfl⟩
  rw [hna] at NM ⊢;clear h hw hk hA hy hna
  by_cases h0:y=0
  . subst h0;rw [if_pos rfl] at hr;simp only [Option.some.injEq,Prod.mk.injEq] at hr;obtain ⟨rfl,rfl,rfl,rfl⟩:=hr;go_enter Tryz.func94,Tryz.ntmps94
    go_wp2_with (go_at_call 146;refine NM.out.mono ?_;rintro e w2 ⟨rfl,E2⟩;have b0':=(E2.cell zb 0).trans b0)
    go_returns;exact ⟨rfl,H1.out.ext E2⟩
  rw [if_neg h0] at hr;simp only [Option.bind_eq_bind,Option.bind_eq_some_iff,Option.some.injEq,Prod.mk.injEq] at hr;obtain ⟨y2,hy2,rfl,rfl,rfl,rfl⟩:=hr;have HY:=hZ hy2;have t0:(y == 0)=false:=by simpa using h0
  clear hy2 h0;go_enter Tryz.func94,Tryz.ntmps94
  go_wp2_with (first
   | (go_at_call 146;refine NM.out.mono ?_;rintro e w2 ⟨rfl,E2⟩;have b0':=(E2.cell zb 0).trans b0)
   | (go_at_call 149;refine (rDrop (H1.out.ext E2).toRW HW.out HY.out).mono ?_;rintro e w3 ⟨rfl,hN⟩))
  go_returns;exact ⟨rfl,(H1.out.ext E2).trans hN⟩
set_option maxRecDepth 100000 in
set_option maxHeartbeats 8000000 in
theorem rdo_rest (h:RW w r S) {x:Hp.Act'} (hk:x.kind < 1 \/ 5 < x.kind)
    {n at_ e0:Int} {S':Hp.Hs} (hr:Hp.rdo S A x=some (n,at_,e0,S')) :
    Calls Tryz.prog 94 #[.pointer (some ⟨r.rb,0,none⟩),actV x p c f,.slice pa A.length ca] w (RTurned r w (.tuple #[.int .i64 n,.int .i64 at_,.int .i64 e0]) S'):=by
  unfold Hp.rdo at hr;rw [if_neg (by omega),if_neg (by omega),if_neg (by omega)] at hr;unfold actV;obtain ⟨kd,hkd⟩:∃ kd,x.kind=kd:=⟨_,rfl⟩
  rw [hkd] at hk hr ⊢;have H1:=hZ ((RNow.refl h).ext (Ext.alloc (Ext.refl w) (.cells #[.int .u8 kd,.int .i64 x.a,.slice p x.list.length c,.int .u8 f,.int .i64 x.n] 85)));generalize A.length=na at *;have e1:(kd == 1)=false:=by simp;omega
  have e2:(kd == 2)=false:=by simp;omega
  have e3:(kd == 3)=false:=by simp;omega
  have e4:(kd == 4)=false:=by simp;omega
  have e5:(kd == 5)=false:=by simp;omega
  clear h hkd
  by_cases h67:kd=6 \/ kd=7
  . rw [if_pos h67] at hr;simp only [Option.some.injEq,Prod.mk.injEq] at hr;obtain ⟨rfl,rfl,rfl,rfl⟩:=hr
    rcases h67 with rfl | rfl
    . clear e1 e2 e3 e4 e5;go_enter Tryz.func94,Tryz.ntmps94
      go_wp2_with fail
      go_returns;exact ⟨rfl,H1.out⟩
    clear e1 e2 e3 e4 e5;go_enter Tryz.func94,Tryz.ntmps94
    go_wp2_with fail
    go_returns;exact ⟨rfl,H1.out⟩
  rw [if_neg h67] at hr;simp only [Option.some.injEq,Prod.mk.injEq] at hr;obtain ⟨rfl,rfl,rfl,rfl⟩:=hr;have e6:(kd == 6)=false:=by simp;omega
  have e7:(kd == 7)=false:=by simp;omega
  clear h67;go_enter Tryz.func94,Tryz.ntmps94
  go_wp2_with fail
  go_returns;exact ⟨rfl,H1.out⟩
theorem rdo_any {ch:Nat->List Nat} (h:RW w r S) (hw:Hp.Wf S B L ch) {x:Hp.Act'} (ok:ActOk x f) (hA:SliceAt w pa ca A) (hs:SliceAt w p c x.list)
    {n at_ e0:Int} {S':Hp.Hs} (hr:Hp.rdo S A x=some (n,at_,e0,S')) :
    Calls Tryz.prog 94 #[.pointer (some ⟨r.rb,0,none⟩),actV x p c f,.slice pa A.length ca] w (RTurned r w (.tuple #[.int .i64 n,.int .i64 at_,.int .i64 e0]) S'):=by
  have hk:=ok.k0
  by_cases k1:x.kind=1
  . exact rdo_end h hw k1 ok.fault ok.f2 ok.n1 ok.n2 hr
  by_cases k2:x.kind=2
  . exact rdo_make h hw k2 hA hs ok.len ok.a1 ok.a2 hr
  by_cases k3:x.kind=3
  . exact rdo_find h hw k3 hA hs ok.len ok.a1 ok.a2 hr
  by_cases k4:x.kind=4
  . exact rdo_hold h hw k4 hA hr
  by_cases k5:x.kind=5
  . exact rdo_drop h hw k5 hA hr
  exact rdo_rest h (by omega) hr
open Go.RowKit Go.Maps
end Go.Proofs.YtdokmmhjmclmnaaGreat
