/-
  Part 22 of a proof: RH10 RH11 LH8.
-/
import Derived.Test.YtdokmmhjmclmnaaGreatMV17
import Derived.Test.YtdokmmhjmclmnaaGreatMV20
import Derived.Test.YtdokmmhjmclmnaaGreatMV21
set_option linter.unusedSimpArgs false
set_option linter.unusedVariables false
set_option linter.unusedSectionVars false
set_option linter.unnecessarySimpa false
namespace Go.Proofs.YtdokmmhjmclmnaaGreat
variable {W' w w' w0 wb:World} {B a b base c cap ce cn f g gb i j k lb m n oc s sc:Nat} {choice t x:Int} {G W fs l o xs z:List Int} {L:List Hp.Tl} {r:Rd} {S S':Hp.Hs} {A N T:List Nat} {M:List (Nat × Int)} {op p pe pn q sp:Option Addr} {d:Hd} {acts:List Hp.Act'}
open Go.RowKit Go.Maps
theorem cnt_take_succ {f:Nat->Int} (h:T[k]? = some b):Hp.cnt f z a (T.take (k+1))=Hp.cnt f z a (T.take k)+(Hp.kz f z b).count (a:Int):=by
 obtain ⟨hl,rfl⟩:=List.getElem?_eq_some_iff.1 h
 rw [List.take_succ_eq_append_getElem hl,Hp.cnt_app]
 rfl
theorem count_take_succ {y:Int} (h:Hp.rd l j=some x):(l.take (j+1)).count y=(l.take j).count y+(if x=y then 1 else 0):=by
 rw [take_snocI h,List.count_append]
 congr 1
 by_cases e:x=y <;> simp [e]
theorem Hp.Wf.cnt_le {ch:Nat->List Nat} (h:Hp.Wf S B L ch) (a k:Nat):Hp.cnt (Hp.ow S.words) S.sizes a (S.taken.take k)<=100000:=by
 have h1:=Hp.cnt_le (f:=Hp.ow S.words) (z:=S.sizes) a (S.taken.take k)
 have h2:=Hp.widths_app (Hp.ow S.words) S.sizes (S.taken.take k) (S.taken.drop k)
 rw [List.take_append_drop] at h2
 have h3:=h.widths_
 have h4:=h.hi
 omega
set_option maxRecDepth 100000 in
set_option maxHeartbeats 16000000 in
theorem rCheckCells {ch:Nat->List Nat} (h:RAt w r S) (hw:Hp.Wf S B L ch) :
    Calls Tryz.prog 70 #[.pointer (some ⟨r.rb,0,none⟩)] w fun e w'=>e = .returned (.bool true)/\Ext w w':=by
  have CELLS:=hZ (rCells_ h hw);have FLD:=hZ (fun b (hb:b ∈ S.taken) W (hW:Ext w W)=>rField (h.ext hW) hw hb);have FAT:=hZ (fun b (hb:b ∈ S.taken) W (hW:Ext w W)=>fieldAt (h.ext hW) hw hb);have NODE:=hZ (fun b (hb:b ∈ S.taken) W (hW:Ext w W)=>rIsNode (h.ext hW) (a:=b) (by have:=hw.part hb;omega));have SAME:=hZ (fun b (hb:b ∈ S.taken) W (hW:Ext w W)=>rSame (h.ext hW) hw hb (fieldAt (h.ext hW) hw hb));have HW:=hZ hw;have lo:=hw.lo;have hi:=hw.hi;have few:=hw.few;have H:=hZ h;have hle:=h.words.le;have hcap:=h.words.cap;have hlt:=h.lt;have c2:=h.c2;obtain ⟨gbb,o',hp',hbb,_⟩:=h.words.cells (by omega)
  cases hp'
  obtain ⟨n,hn⟩:∃ n,S.words.length=n:=⟨_,rfl⟩
  have EN:=hZ hn;rw [hn] at lo hi few hle c2;obtain ⟨m,hm⟩:∃ m,S.taken.length=m:=⟨_,rfl⟩
  have EM:=hZ hm;rw [hm] at few;clear h hw hn hm;go_enter Tryz.func70,Tryz.ntmps70
  go_wp2_with (go_at_call 82;refine CELLS.out.mono ?_;rintro e w1 ⟨p,c,rfl,hR,hE⟩;rw [cellsI_len,EM.out];have RR:=hZ hR.at_;have E1:=hZ hE)
  clear hR hE CELLS;have lle:=RR.out.le;have lcap:=RR.out.cap;rw [cellsI_len,EM.out] at lle
  go_loopg [4] m (fun g i wr=>∃ j:Nat,j<=m/\m-j<=g/\i = .int .i64 j/\Hid (Ext w1 wr))
  case atStart=>exact ⟨0,Nat.zero_le _,by omega,rfl,hZ (Ext.refl _)⟩
  case round=>
   obtain ⟨j,hj,hg,rfl,E⟩:=hrel;have Ew:=E1.out.trans E.out;have zb:r.rb < wr.heap.size:=Nat.lt_of_lt_of_le hlt Ew.le;have zg:r.gb < wr.heap.size:=Nat.lt_of_lt_of_le hbb Ew.le;have EW:=hZ Ew;clear Ew
   by_cases hlt2:j < m
   . obtain ⟨a,ha,haj,hrd⟩:=cellsI_rd (S:=S) (j:=j) (by rw [EM.out];exact hlt2);obtain ⟨lb,lo',hlp,hlbb,hlc⟩:=(RR.out.ext E.out).cells (by rw [cellsI_len,EM.out];omega);have gl:=hlc j _ hrd;have tk:decide ((j:Int) < (m:Int))=true:=dT;have pa:=HW.out.part ha;rw [EN.out] at pa;have hh:=HW.out.holds a ha;obtain ⟨fl,hfl⟩:∃ fl,(Hp.fz (Hp.ow S.words) S.sizes a).length=fl:=⟨_,rfl⟩
     obtain ⟨t,ht⟩:∃ t,Hp.ow S.words a=t:=⟨_,rfl⟩
     have FLB:Hid (∀ W,Ext w W->Calls Tryz.prog 88 #[.pointer (some ⟨r.rb,0,none⟩),.int .i64 a] W fun e w'=>e = .returned (.slice (some ⟨r.gb,r.go+(a+4),none⟩) fl (r.wc-(a+4)))/\Ext W w'):=hZ (fun W hW=>by rw [<- hfl];exact FLD.out a ha W hW);have SMB:Hid (∀ W,Ext w W->Calls Tryz.prog 133 #[.pointer (some ⟨r.rb,0,none⟩),.int .i64 t,.slice (some ⟨r.gb,r.go+(a+4),none⟩) fl (r.wc-(a+4))] W fun e w'=>e = .returned (.int .i64 (a:Int))/\Ext W w'):=hZ (fun W hW=>by rw [<- hfl,<- ht];exact SAME.out a ha W hW);obtain ⟨q,hq⟩:∃ q,Hp.ow S.words (a+2)=q:=⟨_,rfl⟩
     rw [hq] at hh;have hh0:=hh.1;have u0:decide (q < 0)=false:=dF;have s2:(a:Int)+2 < (n:Int):=by omega
     have u1:((a:Int) != (a:Int))=false:=by simp
     have an:a < n:=by omega
     have WD:Hid (∀ W,Ext w W->W.cell? ⟨r.rb,2,none⟩=some (.slice (some ⟨r.gb,r.go,none⟩) n r.wc)/\W.cell? ⟨r.gb,r.go+a,none⟩=some (.int .i64 t)/\W.cell? ⟨r.gb,r.go+(a+2),none⟩=some (.int .i64 q)):=hZ (fun W hW=>⟨(hW.cell hlt 2).trans c2,by rw [<- ht];exact (H.out.ext hW).get (by rw [EN.out];omega),by rw [<- hq];exact (H.out.ext hW).get (by rw [EN.out];omega)⟩);have HAT:=hZ ha;have HFL:=hZ hfl;have HT:=hZ ht;have hto:=HW.out.tag_le ha;rw [ht] at hto;have flb:fl<=12:=by rw [<- hfl,Hp.fz_length];omega
     clear hrd hlc haj ha hfl ht hh hq;subst hlp;go_upto_region 5 with (fail)
     have pr47a:=fun u_ (h_:Ext wr u_)=>(h_.cell hlbb (lo'+j)).trans gl
     refine wp_region_seq (S:=fun W=>Ext wr W) (R:=Ext) (by kernel_rfl) Ext.refl ?_ ?_
     . exact exx
     refine' tkL 0 ?_;refine' tkL 1 ?_;refine' tkL 2 ?_;refine' tkL 3 ?_;refine' tkL 4 ?_;refine' tkL 5 ?_;refine' tkL 6 ?_;refine' tkL 7 ?_;refine' tkL 8 ?_;refine' tkR 9 (v:=.slice (some ⟨r.gb,r.go+(a+4),none⟩) fl (r.wc-(a+4))) rfl (Or.inr ⟨by rfl,88,_, ?hx9_896, ?hy9_896⟩) ?rest9_896
     case hx9_896=>(intro w hSw;go_simp;try with_reducible rfl)
     case hy9_896=>exact fun w hE=>(FLB.out _ (EW.out.trans hE)).mono (fun _ _ h=>⟨h.1,h.2,Ext.trans hE h.2⟩)
     refine layy ?_;refine' tkL 10 ?_;refine' tkL 11 ?_;refine wpAnyR_done (by kernel_rfl) ?_ _;intro x1 _ Ex1;clear pr47a;have EW1:=hZ (EW.out.trans Ex1);have EE1:=hZ (E.out.trans Ex1);obtain ⟨k2,kx,kq⟩:=WD.out _ EW1.out;clear gl EW E Ex1
     cases he:Hp.isEnd t with
     | true=>
      have hE2:Hp.isEnd (Hp.ow S.words a)=true:=by rw [HT.out];exact he
      have tt:20<=t/\t<=24:=by
       unfold Hp.isEnd Hp.within at he
       simpa using he
      have NDB:Hid (∀ W,Ext w W->Calls Tryz.prog 87 #[.pointer (some ⟨r.rb,0,none⟩),.int .i64 a] W fun e w'=>e = .returned (.bool false)/\Ext W w'):=hZ (fun W hW=>by
       have:=NODE.out a HAT.out W hW;rw [HT.out,decide_eq_false (by omega:¬ t < 20)] at this;exact this)
      obtain ⟨y,hy⟩:∃ y,Hp.ow S.words (a+4)=y:=⟨_,rfl⟩
      have ATB:Hid (∀ W,Ext w W->Calls Tryz.prog 28 #[.pointer (some ⟨r.rb,0,none⟩),.int .i64 a] W fun e w'=>e = .returned (.tuple #[.agg #[.int .i64 (-1),.slice none 0 0],.agg #[.int .u8 (t-20),.int .i64 y]])/\Ext W w'):=hZ (fun W hW=>by
       have:=rAt_end (H.out.ext hW) HW.out HAT.out hE2;rw [HT.out,hy] at this;exact this)
      have hen:=HW.out.cells.ends a HAT.out hE2;rw [HT.out,hy] at hen;have CELL:Hid (∀ W:World,Calls Tryz.prog 134 #[.agg #[.int .u8 (t-20),.int .i64 y]] W fun e w'=>e = .returned (.bool true)/\Ext W w'):=hZ (fun W=>dIsCell_is (fun _=>⟨hen.1,hen.2.1⟩) (fun h=>hen.2.2 (by omega)) (by omega) (by omega));clear he hE2 tt hy hen
      go_wp2_with (first
       | (go_at_call 133;refine (SMB.out _ EW1.out).mono ?_;rintro e w2 ⟨rfl,hE2⟩)
       | (go_at_call 87;refine (NDB.out _ (EW1.out.trans hE2)).mono ?_;rintro e w3 ⟨rfl,hE3⟩)
       | (go_at_call 28;refine (ATB.out _ (EW1.out.trans (hE2.trans hE3))).mono ?_;rintro e w4 ⟨rfl,hE4⟩)
       | (go_at_call 134;refine (CELL.out _).mono ?_;rintro e w5 ⟨rfl,hE5⟩))
      have E6:=hZ (EE1.out.trans (hE2.trans (hE3.trans (hE4.trans (Ext.trans (exx) hE5)))))
      go_roundg (m-(j+1))
      case measure=>omega
      case rel=>exact ⟨j+1,by omega,Nat.le_refl _,by go_num,E6⟩
     | false=>
      have hE2:Hp.isEnd (Hp.ow S.words a)=false:=by rw [HT.out];exact he
      have hnd:=Hp.isNode_of (HW.out.cells.tags a HAT.out) hE2;have fw6:=HW.out.fr.few;simp only [Hp.isNode,Hp.within,Bool.and_eq_true,decide_eq_true_eq,HT.out] at hnd;have NDB:Hid (∀ W,Ext w W->Calls Tryz.prog 87 #[.pointer (some ⟨r.rb,0,none⟩),.int .i64 a] W fun e w'=>e = .returned (.bool true)/\Ext W w'):=hZ (fun W hW=>by
       have:=NODE.out a HAT.out W hW;rw [HT.out,decide_eq_true (by omega:t < 20)] at this;exact this)
      have CKN:Hid (∀ W,Ext w W->Calls Tryz.prog 135 #[.pointer (some ⟨r.rb,0,none⟩),.int .i64 (t-1),.slice (some ⟨r.gb,r.go+(a+4),none⟩) fl (r.wc-(a+4))] W fun e w'=>e = .returned (.int .i64 0)/\Ext W w'):=hZ (fun W hW=>by
       have:=rCheckNode (H.out.ext hW) HW.out HAT.out hE2 (FAT.out a HAT.out W hW);rw [HT.out,HFL.out] at this;exact this)
      have FLT:Hid (∀ W,Ext w W->Calls Tryz.prog 136 #[.agg #[.int .i64 0,.slice (some ⟨r.gb,r.go+(a+4),none⟩) fl (r.wc-(a+4))]] W fun e w'=>e = .returned (.bool false)/\Ext W w'):=hZ (fun W hW=>by
       have:=dFlat (v:=0) (FAT.out a HAT.out W hW) (HW.out.cells.flat a HAT.out hE2);rw [HFL.out] at this;exact this)
      have q1:IntKind.i64.wrap (t-1)=t-1:=IntWalk.i64_in _ (by omega);clear he hE2 hnd fw6
      go_wp2_with (first
       | (go_at_call 133;refine (SMB.out _ EW1.out).mono ?_;rintro e w2 ⟨rfl,hE2⟩)
       | (go_at_call 87;refine (NDB.out _ (EW1.out.trans hE2)).mono ?_;rintro e w3 ⟨rfl,hE3⟩;obtain ⟨k32,k3x,_⟩:=WD.out _ (EW1.out.trans (hE2.trans hE3)))
       | (go_at_call 135;refine (CKN.out _ (EW1.out.trans (hE2.trans hE3))).mono ?_;rintro e w4 ⟨rfl,hE4⟩)
       | (go_at_call 136;refine (FLT.out _ (EW1.out.trans (hE2.trans (hE3.trans hE4)))).mono ?_;rintro e w5 ⟨rfl,hE5⟩))
      have E6:=hZ (EE1.out.trans (hE2.trans (hE3.trans (hE4.trans hE5))))
      go_roundg (m-(j+1))
      case measure=>omega
      case rel=>exact ⟨j+1,by omega,Nat.le_refl _,by go_num,E6⟩
   have tk:decide ((j:Int) < (m:Int))=false:=dF
   go_wp2_with fail
   clear tk hj hg hlt2 zb zg EW;have F0:=E;clear E
   go_loopg [9] m (fun g i wr=>∃ j:Nat,j<=m/\m-j<=g/\i = .int .i64 j/\Hid (Ext w1 wr))
   case atStart=>exact ⟨0,Nat.zero_le _,by omega,rfl,F0⟩
   case round=>
    obtain ⟨j,hj,hg,rfl,E⟩:=hrel;clear F0
    by_cases hlt2:j < m
    . obtain ⟨a,ha,haj,hrd⟩:=cellsI_rd (S:=S) (j:=j) (by rw [EM.out];exact hlt2);have tk:decide ((j:Int) < (m:Int))=true:=dT;have pa:=HW.out.part ha;rw [EN.out] at pa;have hu:=HW.out.uses a ha;have HU:=hZ hu;have HRD:=hZ hrd;have HAT:=hZ ha;have a5:a+5<=n:=by omega
      clear hrd haj ha pa hu
      go_wp2_with fail
      go_loopg [10,11] m (fun g s i wx=>∃ (k N:Nat),k<=m/\m-k<=g/\i = .int .i64 k/\s = .int .i64 N/\N<=200000/\Hid (N=Hp.cnt (Hp.ow S.words) S.sizes a (S.taken.take k))/\Hid (Ext w1 wx))
      case atStart=>exact ⟨0,0,Nat.zero_le _,by omega,rfl,rfl,by omega,hZ (by simp [Hp.cnt]),E⟩
      case round=>
       obtain ⟨k,N,hk,hg3,rfl,rfl,hN,HN,E3⟩:=hrel;have Ew:=E1.out.trans E3.out;have zb:r.rb < wr.heap.size:=Nat.lt_of_lt_of_le hlt Ew.le;have zg:r.gb < wr.heap.size:=Nat.lt_of_lt_of_le hbb Ew.le;have EW:=hZ Ew;clear Ew E
       by_cases hlt3:k < m
       . obtain ⟨b,hb,hbk,hrdb⟩:=cellsI_rd (S:=S) (j:=k) (by rw [EM.out];exact hlt3);obtain ⟨lb,lo',hlp,hlbb,hlc⟩:=(RR.out.ext E3.out).cells (by rw [cellsI_len,EM.out];omega);have gl:=hlc k _ hrdb;have LC:=hZ (fun W (hW:Ext wr W)=>(hW.cell hlbb (lo'+k)).trans gl);have LCJ:=hZ (fun W (hW:Ext wr W)=>(hW.cell hlbb (lo'+j)).trans (hlc j _ HRD.out));have tk3:decide ((k:Int) < (m:Int))=true:=dT;obtain ⟨fl,hfl⟩:∃ fl,(Hp.fz (Hp.ow S.words) S.sizes b).length=fl:=⟨_,rfl⟩
         have FLB:Hid (∀ W,Ext w W->Calls Tryz.prog 88 #[.pointer (some ⟨r.rb,0,none⟩),.int .i64 b] W fun e w'=>e = .returned (.slice (some ⟨r.gb,r.go+(b+4),none⟩) fl (r.wc-(b+4)))/\Ext W w'):=hZ (fun W hW=>by rw [<- hfl];exact FLD.out b hb W hW);have pb:=HW.out.part hb;have HFL:=hZ hfl;have HBT:=hZ hb;have hwl:fl<=12:=by rw [<- hfl,Hp.fz_length];omega
         have flr:fl<=r.wc-(b+4):=by rw [<- hfl,Hp.fz_length];rw [EN.out] at pb;omega
         have hN1:N<=100000:=by
          rw [HN.out];exact HW.out.cnt_le a k
         have HB2:=hZ (cnt_take_succ (f:=Hp.ow S.words) (z:=S.sizes) (a:=a) hbk);clear hrdb hlc hbk hb hfl pb;subst hlp
         cases he:Hp.isEnd (Hp.ow S.words b) with
         | true=>
          have hto:=HW.out.cells.tags b HBT.out;have tt:20<=Hp.ow S.words b:=by
           unfold Hp.isEnd Hp.within at he;simp only [Bool.and_eq_true,decide_eq_true_eq] at he;exact he.1
          have NDB:Hid (∀ W,Ext w W->Calls Tryz.prog 87 #[.pointer (some ⟨r.rb,0,none⟩),.int .i64 b] W fun e w'=>e = .returned (.bool false)/\Ext W w'):=hZ (fun W hW=>by
           have:=NODE.out b HBT.out W hW;rw [decide_eq_false (by omega:¬ Hp.ow S.words b < 20)] at this;exact this)
          have hk0:(Hp.kz (Hp.ow S.words) S.sizes b).count (a:Int)=0:=by
           unfold Hp.kz;rw [he];rfl
          have HN2:Hid (N=Hp.cnt (Hp.ow S.words) S.sizes a (S.taken.take (k+1))):=hZ (by rw [HB2.out,hk0,<- HN.out];rfl);have fl1:0 < fl:=by
           rw [<- HFL.out,Hp.fz_length];have:=HW.out.part HBT.out;omega
          have tf:decide ((0:Int) < (fl:Int))=true:=dT;have tf2:decide (0 < fl)=true:=dT;clear he hto tt hk0
          go_wp2_with (go_at_call 88;refine (FLB.out _ EW.out).mono ?_;rintro e w2 ⟨rfl,hE2⟩;have gl2:=LC.out _ hE2)
          go_loopg [10,13] 1 (fun g s i wx=>s = .int .i64 N/\i = .int .i64 0/\Hid (Ext wr wx))
          case atStart=>exact ⟨rfl,rfl,hZ hE2⟩
          case round=>
           obtain ⟨rfl,rfl,E5⟩:=hrel;have gl5:=LC.out _ E5.out
           go_wp2_with (go_at_call 87;refine (NDB.out _ (EW.out.trans E5.out)).mono ?_;rintro e w5 ⟨rfl,hE5⟩)
           have E6:=hZ (E3.out.trans (E5.out.trans hE5))
           go_roundg (m-(k+1))
           case measure=>omega
           case rel=>exact ⟨k+1,N,by omega,Nat.le_refl _,by go_num,rfl,by omega,HN2,E6⟩
         | false=>
          have hto:=HW.out.cells.tags b HBT.out;have hnd:=Hp.isNode_of hto he;have fw6:=HW.out.fr.few;simp only [Hp.isNode,Hp.within,Bool.and_eq_true,decide_eq_true_eq] at hnd;have NDB:Hid (∀ W,Ext w W->Calls Tryz.prog 87 #[.pointer (some ⟨r.rb,0,none⟩),.int .i64 b] W fun e w'=>e = .returned (.bool true)/\Ext W w'):=hZ (fun W hW=>by
           have:=NODE.out b HBT.out W hW;rw [decide_eq_true (by omega:Hp.ow S.words b < 20)] at this;exact this)
          have hkz:Hp.kz (Hp.ow S.words) S.sizes b=Hp.fz (Hp.ow S.words) S.sizes b:=by
           unfold Hp.kz;rw [he];rfl
          rw [hkz] at HB2;clear he hto hnd fw6 hkz
          go_wp2_with (go_at_call 88;refine (FLB.out _ EW.out).mono ?_;rintro e w2 ⟨rfl,hE2⟩;have gl2:=LC.out _ hE2)
          go_loopg [10,13] fl (fun g s i wx=>∃ (jj M:Nat),jj<=fl/\fl-jj<=g/\i = .int .i64 jj/\s = .int .i64 M/\M<=N+jj/\Hid (M=N+((Hp.fz (Hp.ow S.words) S.sizes b).take jj).count (a:Int))/\Hid (Ext wr wx))
          case atStart=>exact ⟨0,N,Nat.zero_le _,by omega,rfl,rfl,by omega,hZ (by simp),hZ hE2⟩
          case round=>
           obtain ⟨jj,M,hjj,hg5,rfl,rfl,hM,HM,E5⟩:=hrel;have gl5:=LC.out _ E5.out;have glj:=LCJ.out _ E5.out
           by_cases hlt5:jj < fl
           . have tf:decide ((jj:Int) < (fl:Int))=true:=dT;have tf2:decide (jj < fl)=true:=dT;obtain ⟨x,hx⟩:=rd_get (l:=Hp.fz (Hp.ow S.words) S.sizes b) (j:=jj) (by rw [HFL.out];exact hlt5);obtain ⟨fb,fo,hfp,hfb,hfc⟩:=(FAT.out b HBT.out _ (EW.out.trans E5.out)).cells (by rw [HFL.out];omega)
             cases hfp
             have gf:=hfc jj _ hx;have HCT:=hZ (count_take_succ (y:=(a:Int)) hx);clear hfc hx
             by_cases hxa:x=(a:Int)
             . have t0:(x == (a:Int))=true:=by simpa using hxa
               have HM2:Hid (M+1=N+((Hp.fz (Hp.ow S.words) S.sizes b).take (jj+1)).count (a:Int)):=hZ (by rw [HCT.out,if_pos hxa,HM.out];omega);clear hxa;go_upto_region 25 with (go_at_call 87;refine (NDB.out _ (EW.out.trans E5.out)).mono ?_;rintro e w5 ⟨rfl,hE5⟩;have gf5:=(hE5.cell hfb _).trans gf;have glj5:=LCJ.out _ (E5.out.trans hE5))
               have zl5:lb < w5.heap.size:=Nat.lt_of_lt_of_le hlbb (E5.out.trans hE5).le;have zf5:r.gb < w5.heap.size:=Nat.lt_of_lt_of_le hfb hE5.le;have pr48a:=fun u_ (h_:Ext w5 u_)=>(h_.cell zf5 (r.go+(b+4)+jj)).trans gf5
               have pr48b:=fun u_ (h_:Ext w5 u_)=>(h_.cell zl5 (lo'+j)).trans glj5
               refine wp_region_seq (S:=fun W=>Ext w5 W) (R:=Ext) (by kernel_rfl) Ext.refl ?_ ?_
               . exact exx
               refine' tkL 0 ?_;refine' tkL 1 ?_;refine' tkL 2 ?_;refine' tkL 3 ?_;refine' tkL 4 ?_;refine' tkL 5 ?_;refine' tkL 6 ?_;refine' tkL 7 ?_;refine' tkL 8 ?_;refine wpAnyR_done (by kernel_rfl) ?_ _;intro x6 _ Ex6;clear pr48a pr48b;have E6:=hZ (E5.out.trans (hE5.trans Ex6))
               go_wp2_with fail
               go_roundg (fl-(jj+1))
               case measure=>omega
               case rel=>exact ⟨jj+1,M+1,by omega,Nat.le_refl _,by go_num,by go_num,by omega,HM2,E6⟩
             have t0:(x == (a:Int))=false:=by simpa using hxa
             have HM2:Hid (M=N+((Hp.fz (Hp.ow S.words) S.sizes b).take (jj+1)).count (a:Int)):=hZ (by rw [HCT.out,if_neg hxa,HM.out];rfl);clear hxa;go_upto_region 25 with (go_at_call 87;refine (NDB.out _ (EW.out.trans E5.out)).mono ?_;rintro e w5 ⟨rfl,hE5⟩;have gf5:=(hE5.cell hfb _).trans gf;have glj5:=LCJ.out _ (E5.out.trans hE5))
             have zl5:lb < w5.heap.size:=Nat.lt_of_lt_of_le hlbb (E5.out.trans hE5).le;have zf5:r.gb < w5.heap.size:=Nat.lt_of_lt_of_le hfb hE5.le;have pr49a:=fun u_ (h_:Ext w5 u_)=>(h_.cell zf5 (r.go+(b+4)+jj)).trans gf5
             have pr49b:=fun u_ (h_:Ext w5 u_)=>(h_.cell zl5 (lo'+j)).trans glj5
             refine wp_region_seq (S:=fun W=>Ext w5 W) (R:=Ext) (by kernel_rfl) Ext.refl ?_ ?_
             . exact exx
             refine' tkL 0 ?_;refine' tkL 1 ?_;refine' tkL 2 ?_;refine' tkL 3 ?_;refine' tkL 4 ?_;refine' tkL 5 ?_;refine' tkL 6 ?_;refine' tkL 7 ?_;refine' tkL 8 ?_;refine wpAnyR_done (by kernel_rfl) ?_ _;intro x6 _ Ex6;clear pr49a pr49b;have E6:=hZ (E5.out.trans (hE5.trans Ex6))
             go_wp2_with fail
             go_roundg (fl-(jj+1))
             case measure=>omega
             case rel=>exact ⟨jj+1,M,by omega,Nat.le_refl _,by go_num,rfl,by omega,HM2,E6⟩
           have:jj=fl:=by omega
           subst this;have tf:decide ((jj:Int) < (jj:Int))=false:=dF;have tf2:decide (jj < jj)=false:=dF
           have HN2:Hid (M=Hp.cnt (Hp.ow S.words) S.sizes a (S.taken.take (k+1))):=hZ (by
            have h1:=HM.out;rw [List.take_of_length_le (by rw [HFL.out];exact Nat.le_refl _)] at h1;rw [HB2.out,h1,HN.out])
           have E6:=hZ (E3.out.trans E5.out)
           go_wp2_with fail
           go_roundg (m-(k+1))
           case measure=>omega
           case rel=>exact ⟨k+1,M,by omega,Nat.le_refl _,by go_num,rfl,by omega,HN2,E6⟩
       have:k=m:=by omega
       subst this;have tk3:decide ((k:Int) < (k:Int))=false:=dF;have hNu:Hp.ow S.words (a+1)=(N:Int):=by
        have h1:=HN.out;rw [<- EM.out,List.take_length] at h1;rw [HU.out,h1]
       have gu:=(H.out.ext EW.out).get (j:=a+1) (by rw [EN.out];omega);rw [hNu] at gu;obtain ⟨lb,lo',hlp,hlbb,hlc⟩:=(RR.out.ext E3.out).cells (by rw [cellsI_len,EM.out];omega);have glj:=hlc j _ HRD.out;have c2w:=(EW.out.cell hlt 2).trans c2;have u1:((N:Int) != (N:Int))=false:=by simp
       have s1:IntKind.i64.wrap ((a:Int)+1)=(a:Int)+1:=IntWalk.i64_in _ (by omega);have s2:(0:Int)<=(a:Int)+1:=by omega
       have s3:(a:Int)+1 < (n:Int):=by omega
       have s4:((a:Int)+1).toNat=a+1:=by omega
       have jm:(j:Int) < (k:Int):=by omega
       clear hNu hlc;subst hlp;go_upto_region 27 with (fail)
       have pr50a:=fun u_ (h_:Ext wr u_)=>(h_.cell zb 2).trans c2w
       have pr50b:=fun u_ (h_:Ext wr u_)=>(h_.cell zg (r.go+(a+1))).trans gu
       have pr50c:=fun u_ (h_:Ext wr u_)=>(h_.cell hlbb (lo'+j)).trans glj
       refine wp_region_seq (S:=fun W=>Ext wr W) (R:=Ext) (by kernel_rfl) Ext.refl ?_ ?_
       . exact exx
       refine' tkL 0 ?_;refine' tkL 1 ?_;refine' tkL 2 ?_;refine' tkL 3 ?_;refine' tkL 4 ?_;refine' tkL 5 ?_;refine' tkL 6 ?_;refine' tkL 7 ?_;refine' tkL 8 ?_;refine' tkL 9 ?_;refine' tkL 10 ?_;refine' tkL 11 ?_;refine' tkL 12 ?_;refine wpAnyR_done (by kernel_rfl) ?_ _;intro x6 _ Ex6;clear pr50a pr50b pr50c;have E6:=hZ (E3.out.trans Ex6)
       go_wp2_with fail
       go_roundg (k-(j+1))
       case measure=>omega
       case rel=>exact ⟨j+1,by omega,Nat.le_refl _,by go_num,E6⟩
    have tk:decide ((j:Int) < (m:Int))=false:=dF
    go_wp2_with fail
    go_returns;exact ⟨rfl,E1.out.trans E.out⟩
theorem rMade {go wc:Nat} (hs:SliceAt w sp sc S.sizes) (ho:SliceAt w op oc S.order) (hw:SliceAt w (some ⟨gb,go,none⟩) wc S.words) (t:TypeId) :
    RAt (w.alloc (.cells #[.slice sp S.sizes.length sc,.slice op S.order.length oc,.slice (some ⟨gb,go,none⟩) S.words.length wc] t)) ⟨w.heap.size,sp,sc,op,oc,gb,go,wc⟩ S:=
  ⟨by simp [go_sem],by simp [go_sem],by simp [go_sem],hs.ext (Ext.alloc (Ext.refl _) _),ho.ext (Ext.alloc (Ext.refl _) _),hw.ext (Ext.alloc (Ext.refl _) _)⟩
set_option maxRecDepth 100000 in
set_option maxHeartbeats 8000000 in
theorem rCheck {go wc:Nat} {ch:Nat->List Nat} (hs:SliceAt w sp sc S.sizes) (ho:SliceAt w op oc S.order) (hw':SliceAt w (some ⟨gb,go,none⟩) wc S.words) (hw:Hp.Wf S B L ch) :
    Calls Tryz.prog 19 #[.slice sp S.sizes.length sc,.slice op S.order.length oc,.slice (some ⟨gb,go,none⟩) S.words.length wc] w fun e w'=>e = .returned (.bool true)/\Ext w w':=by
  have M:=rMade hs ho hw' 54;have E0:Ext w (w.alloc (.cells #[.slice sp S.sizes.length sc,.slice op S.order.length oc,.slice (some ⟨gb,go,none⟩) S.words.length wc] 54)):=Ext.alloc (Ext.refl _) _;have HW:=hZ hw;have lo:=hw.lo;have hi:=hw.hi;have hle:=hw'.le;have hcap:=hw'.cap;have hLn:=Hp.lay_len_ hw.parts.lay;go_enter Tryz.func19,Tryz.ntmps19
  go_wp2_with fail
  have ME:=hZ M;have EE0:=hZ E0;clear M E0 hs ho hw' hw;generalize w.alloc (.cells #[.slice sp S.sizes.length sc,.slice op S.order.length oc,.slice (some ⟨gb,go,none⟩) S.words.length wc] 54)=w0 at *;generalize hr:(⟨w.heap.size,sp,sc,op,oc,gb,go,wc⟩:Rd)=r at ME;have hrb:w.heap.size=r.rb:=by rw [<- hr]
  have hgb:gb=r.gb:=by rw [<- hr]
  have hgo:go=r.go:=by rw [<- hr]
  have hwc:wc=r.wc:=by rw [<- hr]
  rw [hrb,hgb,hgo,hwc];rw [hwc] at hle hcap;clear hrb hgb hgo hwc hr;obtain ⟨n,hn⟩:∃ n,S.words.length=n:=⟨_,rfl⟩
  have EN:=hZ hn;rw [hn] at lo hi hle hLn ⊢;clear hn
  go_loopg [8] L.length (fun g i wr=>∃ (P Q:List Hp.Tl) (s:Nat),Q.length<=g/\i = .int .i64 s/\s<=n/\Hid (L=P ++ Q)/\Hid (Hp.Lay s Q n)/\Hid (Ext w0 wr))
  case atStart=>exact ⟨[],L,17,Nat.le_refl _,rfl,by omega,hZ rfl,hZ (by rw [<- EN.out];exact HW.out.parts.lay),hZ (Ext.refl _)⟩
  case round=>
   obtain ⟨P,Q,s,hg,rfl,hs,EL,LQ,E⟩:=hrel;have N:=hZ (ME.out.ext E.out)
   cases Q with
   | nil=>
    have:s=n:=LQ.out;subst this;have tk:decide ((s:Int) < (s:Int))=false:=dF;have CF:=hZ (fun W (hW:Ext w0 W)=>rCheckFree (ME.out.ext hW) HW.out);have CC:=hZ (fun W (hW:Ext w0 W)=>rCheckCells (ME.out.ext hW) HW.out);have CH:=hZ (fun W (hW:Ext w0 W)=>rCheckChains (ME.out.ext hW) HW.out)
    go_wp2_with (first
     | (go_at_call 69;refine (CF.out _ E.out).mono ?_;rintro e w2 ⟨rfl,hE2⟩)
     | (go_at_call 70;refine (CC.out _ (E.out.trans hE2)).mono ?_;rintro e w3 ⟨rfl,hE3⟩)
     | (go_at_call 71;refine (CH.out _ (E.out.trans (hE2.trans hE3))).mono ?_;rintro e w4 ⟨rfl,hE4⟩))
    go_returns;exact ⟨rfl,EE0.out.trans (E.out.trans (hE2.trans (hE3.trans hE4)))⟩
   | cons t Q=>
    have htL:t ∈ L:=by rw [EL.out];simp
    have hok:=HW.out.parts.ok t htL;obtain ⟨q1,q2,q3⟩:=LQ.out;have q4:=q3.le;subst q1;have hta:=(HW.out.parts.lay.mem htL).2.1;have h17:=(HW.out.parts.lay.mem htL).1;rw [EN.out] at hta;have gx:=N.out.get (j:=t.a) (by rw [EN.out];omega);have tk:decide ((t.a:Int) < (n:Int))=true:=dT;have EL2:Hid (L=(P ++ [t]) ++ Q):=hZ (by rw [EL.out];simp);have LQ2:=hZ q3;simp only [List.length_cons] at hg
    cases hf:t.fr with
    | true=>
     have hfr:=hok.free hf;have LONG:=hZ (fun W (hW:Ext w0 W)=>rLong_free (ME.out.ext hW) (a:=t.a) (by rw [EN.out];omega) hfr.1 hfr.2.1);have gy:=N.out.get (j:=t.a+1) (by rw [EN.out];omega);rw [hfr.1] at gx;rw [hfr.2.1] at gy;have u1:decide ((t.a:Int)+3 > (n:Int))=false:=dF;have u2:decide ((t.k:Int) < 3)=false:=dF;have u3:decide ((t.k:Int) > (n:Int)-(t.a:Int))=false:=dF;have u4:decide ((n:Int) < (t.a:Int)+3)=false:=dF;have u5:decide ((n:Int)-(t.a:Int) < (t.k:Int))=false:=dF;have u6:decide (t.k < 3)=false:=dF;clear hfr hok q3 LQ EL hf htL
     go_wp2_with (go_at_call 67;refine (LONG.out _ E.out).mono ?_;rintro e w1 ⟨rfl,hb1⟩;obtain ⟨hc1,hf1,hs1⟩:=hb1.cells)
     go_roundg Q.length
     case measure=>omega
     case rel=>exact ⟨P ++ [t],Q,t.a+t.k,Nat.le_refl _,by go_num,by omega,EL2,LQ2,hZ (E.out.trans hb1)⟩
    | false=>
     have hcl:=hok.cell hf;have hwz:=Hp.wz_ok HW.out.fr.toFr hcl.1;have hto:=Hp.okTag_le HW.out.fr.toFr hcl.1;have LONG:=hZ (fun W (hW:Ext w0 W)=>hcl.2 ▸ rLong_cell (ME.out.ext hW) HW.out.fr.toFr (a:=t.a) (by rw [EN.out];omega) hcl.1);have FLDS:=hZ (fun W (hW:Ext w0 W)=>hcl.2 ▸ rFields (ME.out.ext hW) HW.out.fr.toFr hcl.1);have t0:(Hp.ow S.words t.a == 0)=false:=by simp;omega
     obtain ⟨k,hk⟩:∃ k,t.k-4=k:=⟨_,rfl⟩
     have FL2:Hid (∀ W,Ext w0 W->Calls Tryz.prog 68 #[.pointer (some ⟨r.rb,0,none⟩),.int .i64 (Hp.ow S.words t.a)] W fun e w'=>e = .returned (.int .i64 (k:Int))/\Ext W w'):=hZ (fun W hW=>by rw [<- hk];exact FLDS.out W hW);have hkk:t.k=k+4:=by rw [<- hcl.2] at hwz;omega
     have GX:=hZ (fun W (hW:Ext w0 W)=>(ME.out.ext hW).get (j:=t.a) (by rw [EN.out];omega));have u1:decide ((k:Int) < 0)=false:=dF;have u2:decide ((t.a:Int)+4+(k:Int) > (n:Int))=false:=dF;have u3:decide ((n:Int) < (t.a:Int)+4+(k:Int))=false:=dF;clear hcl hok q3 LQ EL hf htL hwz hto hk FLDS;generalize Hp.ow S.words t.a=x at *;have k16:k<=100000:=by omega
     have a16:t.a<=100000:=by omega
     go_wp2_with (first
      | (go_at_call 67;refine (LONG.out _ (by assumption)).mono ?_;rintro e w5 ⟨rfl,hE5⟩)
      | (go_at_call 68;refine (FL2.out _ E.out).mono ?_;rintro e w2 ⟨rfl,hE2⟩;have gx2:=GX.out _ (E.out.trans hE2))
      | (go_at_call 68;refine (FL2.out _ (E.out.trans hE2)).mono ?_;rintro e w3 ⟨rfl,hE3⟩;have F3:Ext w0 w3:=E.out.trans (hE2.trans hE3)))
     go_roundg Q.length
     case measure=>omega
     case rel=>exact ⟨P ++ [t],Q,t.a+t.k,Nat.le_refl _,by go_num,by omega,EL2,LQ2,hZ (F3.trans hE5)⟩
end Go.Proofs.YtdokmmhjmclmnaaGreat
