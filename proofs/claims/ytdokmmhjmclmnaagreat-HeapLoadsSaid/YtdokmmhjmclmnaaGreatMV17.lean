/-
  Part 17 of a proof: HFn26 RH5 RH6 RH7 HFn54 LH1 LH2 LH3 LH4 LH5 LH6 LH7 HFn32 HFn33 LD3 RP1 RP2 RP3 RP4 RP5 RP6 RP7.
-/
import Derived.BigRegion
import Derived.Deep.AppendLies
import Derived.Test.YtdokmmhjmclmnaaGreatMV06
import Derived.Test.YtdokmmhjmclmnaaGreatMV07
import Derived.Test.YtdokmmhjmclmnaaGreatMV09
import Derived.Test.YtdokmmhjmclmnaaGreatMV10
import Derived.Test.YtdokmmhjmclmnaaGreatMV11
import Derived.Test.YtdokmmhjmclmnaaGreatMV15
import Derived.Test.YtdokmmhjmclmnaaGreatMV16
set_option linter.unusedSimpArgs false
set_option linter.unusedVariables false
set_option linter.unusedSectionVars false
set_option linter.unnecessarySimpa false
namespace Go.Proofs.YtdokmmhjmclmnaaGreat
variable {W' w w' w0 wb:World} {B a b base c cap ce cn f g gb i j k lb m n oc s sc:Nat} {choice t x:Int} {G W fs l o xs z:List Int} {L:List Hp.Tl} {r:Rd} {S S':Hp.Hs} {A N T:List Nat} {M:List (Nat × Int)} {op p pe pn q sp:Option Addr} {d:Hd} {acts:List Hp.Act'}
open Go.RowKit Go.Maps
theorem dSame_any {d:Nat} {m:List Int} (h:SliceAt w p c l) (k:SliceAt w q d m) :
    Calls Tryz.prog 24 #[.slice p l.length c,.slice q m.length d] w fun e w'=>e = .returned (.bool (decide (l=m)))/\Ext w w':=by
  by_cases hne:l.length=m.length
  case neg=>
   have e:decide (l=m)=false:=by
    apply decide_eq_false;intro e;exact hne (by rw [e])
   rw [e];have hle:=h.le;have hcap:=h.cap;have hle':=k.le;have hcap':=k.cap;clear h k e;generalize l.length=a at *;generalize m.length=b at *;have e1:((a:Int) == (b:Int))=false:=by simpa using (by omega:¬ (a:Int)=b)
   go_enter Tryz.func24,Tryz.ntmps24;go_wp2;go_returns;exact ⟨rfl,exx⟩
  case pos=>
   have hle:=h.le;have hcap:=h.cap;have hcap':=k.cap;have H:=hZ h;have K:=hZ k;clear h k;rw [<- hne];have HM:=hZ hne;clear hne;generalize hL:l.length=n at hle ⊢;have HL:=hZ hL;clear hL;have mixed:Tryz.prog.follows .mixedOrders=true:=by kernel_rfl
   go_enter Tryz.func24,Tryz.ntmps24;go_wp2
   go_loopg [5] n (fun g i wr=>∃ j:Nat,j<=n/\n-j<=g/\i = .int .i64 j/\Aside (Ext w wr)/\Aside (∀ i,i < j->Hp.rd l i=Hp.rd m i))
   case atStart=>exact ⟨0,Nat.zero_le _,by omega,rfl,Ext.refl w,fun m hm=>absurd hm (Nat.not_lt_zero _)⟩
   case round=>
    obtain ⟨j,hj,hg,rfl,HE,HA⟩:=hrel
    by_cases hlt:j < n
    . obtain ⟨f,hf⟩:=rd_get (l:=l) (j:=j) (by rw [HL.out];exact hlt);obtain ⟨f',hf'⟩:=rd_get (l:=m) (j:=j) (by rw [<- HM.out,HL.out];exact hlt);obtain ⟨b,o,rfl,hb,hc⟩:=(H.out.ext HE.out).cells (by rw [HL.out];omega);obtain ⟨b',o',rfl,hb',hc'⟩:=(K.out.ext HE.out).cells (by rw [<- HM.out,HL.out];omega);have g1:=hc j f hf;have g2:=hc' j f' hf';have HF:=hZ hf;have HF':=hZ hf';clear hf hc hf' hc'
      by_cases he:f=f'
      . subst he
        go_wp2_with fail
        go_region_o
        go_wp2
        go_roundg (n-(j+1))
        case measure=>omega
        case rel=>
         refine ⟨j+1,by omega,by omega,by go_num,(show Aside _ from HE.out.drew),(show Aside _ from fun i hi=>?_)⟩
         by_cases e:i=j
         . subst e;rw [HF.out,HF'.out]
         exact HA.out i (by omega)
      have e1:(f == f')=false:=by simpa using he
      go_wp2_with fail
      go_region_o
      go_wp2;go_returns;refine ⟨?_,HE.out.drew⟩;have e:decide (l=m)=false:=by
       apply decide_eq_false;rintro rfl;have:=HF.out;rw [HF'.out] at this
       cases this
       exact he rfl
      rw [e];rfl
    have:j=n:=by omega
    subst this;go_wp2;go_returns;refine ⟨?_,HE.out⟩;have e:decide (l=m)=true:=decide_eq_true (eq_of_rd HM.out (by rw [HL.out];exact HA.out));rw [e];rfl
theorem dSame_is {d:Nat} {m:List Int} {b:Bool} (hb:decide (l=m)=b) (h:SliceAt w p c l) (k:SliceAt w q d m) :
    Calls Tryz.prog 24 #[.slice p l.length c,.slice q m.length d] w fun e w'=>e = .returned (.bool b)/\Ext w w':=by
  subst hb;exact dSame_any h k
def lastWords:List Int:=[0,20,2,0,0,5,20,1,0,0,7,2,1,0,0,17,22,1,0,0,0,17,27]
theorem last_any (w:World):Calls Tryz.prog 58 #[] w fun e w'=>e = .returned (.slice (some ⟨w.heap.size,0,none⟩) 23 23)/\w'=w.alloc (.cells (ints lastWords).toArray 3):=by
 go_enter Tryz.func58,Tryz.ntmps58
 go_wp2
 go_returns
 exact ⟨rfl,rfl⟩
theorem cellsI_rd (hj:j < S.taken.length):∃ a ∈ S.taken,S.taken[j]? = some a/\Hp.rd (cellsI S) j=some (a:Int):=by
 refine ⟨S.taken[j],List.getElem_mem hj,List.getElem?_eq_getElem hj, ?_⟩
 simp [Hp.rd,cellsI,hj]
theorem cellsI_len (S:Hp.Hs):(cellsI S).length=S.taken.length:=by simp [cellsI]
set_option maxRecDepth 100000 in
set_option maxHeartbeats 4000000 in
theorem rSame {ch:Nat->List Nat} (h:RAt w r S) (hw:Hp.Wf S B L ch) (ha:a ∈ S.taken) {qc:Nat} (hq:SliceAt w q qc (Hp.fz (Hp.ow S.words) S.sizes a)) :
    Calls Tryz.prog 133 #[.pointer (some ⟨r.rb,0,none⟩),.int .i64 (Hp.ow S.words a),.slice q (Hp.fz (Hp.ow S.words) S.sizes a).length qc] w fun e w'=>e = .returned (.int .i64 (a:Int))/\Ext w w':=by
  have CELLS:=hZ (rCells_ h hw);have FLD:=hZ (fun b (hb:b ∈ S.taken) W (hW:Ext w W)=>rField (h.ext hW) hw hb);have FAT:=hZ (fun b (hb:b ∈ S.taken) W (hW:Ext w W)=>fieldAt (h.ext hW) hw hb);have HQ:=hZ hq;have H:=hZ h;have HW:=hZ hw;have few:=hw.few;have hhi:=hw.hi;have hle:=h.words.le;have hcap:=h.words.cap;have hlt:=h.lt;have qcap:=hq.cap;obtain ⟨gbb,o',hp',hbb,_⟩:=h.words.cells (by have:=hw.lo;omega)
  cases hp'
  obtain ⟨fs,hfs⟩:∃ fs,Hp.fz (Hp.ow S.words) S.sizes a=fs:=⟨_,rfl⟩
  have HFS:=hZ hfs;obtain ⟨t,ht⟩:∃ t,Hp.ow S.words a=t:=⟨_,rfl⟩
  have HT:=hZ ht;have c2:=h.c2;obtain ⟨n,hn⟩:∃ n,S.words.length=n:=⟨_,rfl⟩
  have EN:=hZ hn;rw [hfs,ht];rw [hn] at c2 hle few hhi;have HA:=hZ ha;have qle:=hq.le;rw [hfs] at qle;clear h hw hq hfs ht hn ha;obtain ⟨m,hm⟩:∃ m,S.taken.length=m:=⟨_,rfl⟩
  have EM:=hZ hm;rw [hm] at few;clear hm;go_enter Tryz.func133,Tryz.ntmps133
  go_wp2_with (go_at_call 82;refine CELLS.out.mono ?_;rintro e w1 ⟨p,c,rfl,hR,hE⟩;rw [cellsI_len,EM.out];have RR:=hZ hR.at_;have E1:=hZ hE)
  clear hR hE CELLS;have lle:=RR.out.le;have lcap:=RR.out.cap;rw [cellsI_len,EM.out] at lle
  go_loopg [8] m (fun g i wr=>∃ j:Nat,j<=m/\m-j<=g/\i = .int .i64 j/\Hid (Ext w1 wr)/\Hid (∀ i,i < j->S.taken[i]? ≠ some a))
  case atStart=>exact ⟨0,Nat.zero_le _,by omega,rfl,hZ (Ext.refl _),hZ (fun i hi=>absurd hi (Nat.not_lt_zero _))⟩
  case round=>
   obtain ⟨j,hj,hg,rfl,E,A⟩:=hrel
   by_cases hlt2:j < m
   . obtain ⟨b,hb,hbj,hrd⟩:=cellsI_rd (S:=S) (j:=j) (by rw [EM.out];exact hlt2);obtain ⟨lb,lo,hlp,hlbb,hlc⟩:=(RR.out.ext E.out).cells (by rw [cellsI_len,EM.out];omega);have gl:=hlc j _ hrd;have Ew:=E1.out.trans E.out;have c2w:=(Ew.cell hlt 2).trans c2;have gw:=(H.out.ext Ew).get (j:=b) (by have:=HW.out.part hb;omega);have pb:=HW.out.part hb;rw [EN.out] at pb;have zb:r.rb < wr.heap.size:=Nat.lt_of_lt_of_le hlt Ew.le;have zg:r.gb < wr.heap.size:=Nat.lt_of_lt_of_le hbb Ew.le;have b1:b < n:=by omega
     have EW:=hZ Ew;have HB:=hZ hb;have HBJ:=hZ hbj;have FLB:=hZ (fun W (hW:Ext w W)=>FLD.out b hb W hW);have FAB:=hZ (fun W (hW:Ext w W)=>FAT.out b hb W hW);obtain ⟨fl,hfl⟩:∃ fl,(Hp.fz (Hp.ow S.words) S.sizes b).length=fl:=⟨_,rfl⟩
     have EFL:=hZ hfl;have tk:decide ((j:Int) < (m:Int))=true:=dT;clear hrd hlc hbj hb pb hfl;subst hlp
     by_cases hba:b=a
     . subst hba;rw [HT.out] at gw;have t0:(t == t)=true:=by simp
       have FLB2:Hid (∀ W,Ext w W->Calls Tryz.prog 88 #[.pointer (some ⟨r.rb,0,none⟩),.int .i64 b] W fun e w'=>e = .returned (.slice (some ⟨r.gb,r.go+(b+4),none⟩) fs.length (r.wc-(b+4)))/\Ext W w'):=hZ (fun W hW=>by rw [<- HFS.out];exact FLB.out W hW);have SM:Hid (∀ W,Ext w W->Calls Tryz.prog 24 #[.slice (some ⟨r.gb,r.go+(b+4),none⟩) fs.length (r.wc-(b+4)),.slice q fs.length qc] W fun e w'=>e = .returned (.bool true)/\Ext W w'):=hZ (fun W hW=>by
        have:=dSame_is (b:=true) (decide_eq_true rfl) (FAB.out W hW) (HQ.out.ext hW);rw [HFS.out] at this;exact this)
       go_wp2_with fail
       have pr30a:=fun u_ (h_:Ext wr u_)=>(h_.cell zb 2).trans c2w
       have pr30b:=fun u_ (h_:Ext wr u_)=>(h_.cell hlbb (lo+j)).trans gl
       have pr30c:=fun u_ (h_:Ext wr u_)=>(h_.cell zg (r.go+b)).trans gw
       refine wp_region_seq (S:=fun W=>Ext wr W) (R:=Ext) (by kernel_rfl) Ext.refl ?_ ?_
       . exact exx
       refine' tkL 0 ?_;refine' tkL 1 ?_;refine' tkL 2 ?_;refine' tkL 3 ?_;refine' tkL 4 ?_;refine' tkL 5 ?_;refine' tkL 6 ?_;refine' tkL 7 ?_;refine' tkL 8 ?_;refine' tkL 9 ?_;refine' tkL 10 ?_;refine' tkL 11 ?_;refine' tkL 12 ?_;refine' tkL 13 ?_;refine' tkL 14 ?_;refine' tkL 15 ?_;refine' tkL 16 ?_;refine' tkL 17 ?_;refine' tkR 18 (v:=.slice (some ⟨r.gb,r.go+(b+4),none⟩) fs.length (r.wc-(b+4))) rfl (Or.inr ⟨by rfl,88,_, ?hx18_599, ?hy18_599⟩) ?rest18_599
       case hx18_599=>(intro w hSw;go_simp;try with_reducible rfl)
       case hy18_599=>exact fun w hE=>(FLB2.out _ (EW.out.trans hE)).mono (fun _ _ h=>⟨h.1,h.2,Ext.trans hE h.2⟩)
       refine layy ?_;refine' tkL 19 ?_;refine' tkR 20 (v:=.bool true) rfl (Or.inr ⟨by rfl,24,_, ?hx20_601, ?hy20_601⟩) ?rest20_601
       case hx20_601=>(intro w hSw;go_simp;try with_reducible rfl)
       case hy20_601=>exact fun w hE=>(SM.out _ (EW.out.trans hE)).mono (fun _ _ h=>⟨h.1,h.2,Ext.trans hE h.2⟩)
       refine layy ?_;refine' tkL 21 ?_;refine wpAnyR_done (by kernel_rfl) ?_ _;intro x1 _ Ex1;clear pr30a pr30b pr30c;have gl2:=(Ex1.cell hlbb (lo+j)).trans gl
       go_wp2_with fail
       go_returns;exact ⟨rfl,EW.out.trans Ex1⟩
     have A2:Hid (∀ i,i < j+1->S.taken[i]? ≠ some a):=hZ (fun i hi=>by
      by_cases e:i=j
      . subst e;rw [HBJ.out]
        simpa using hba
      . exact A.out i (by omega))
     by_cases hbt:Hp.ow S.words b=t
     . rw [hbt] at gw;have t0:(t == t)=true:=by simp
       have FLB2:Hid (∀ W,Ext w W->Calls Tryz.prog 88 #[.pointer (some ⟨r.rb,0,none⟩),.int .i64 b] W fun e w'=>e = .returned (.slice (some ⟨r.gb,r.go+(b+4),none⟩) fl (r.wc-(b+4)))/\Ext W w'):=hZ (fun W hW=>by rw [<- EFL.out];exact FLB.out W hW);have SM:Hid (∀ W,Ext w W->Calls Tryz.prog 24 #[.slice (some ⟨r.gb,r.go+(b+4),none⟩) fl (r.wc-(b+4)),.slice q fs.length qc] W fun e w'=>e = .returned (.bool false)/\Ext W w'):=hZ (fun W hW=>by
        have:=dSame_is (b:=false) (decide_eq_false (fun e=>hba (HW.out.cells.one b HB.out a HA.out (hbt.trans HT.out.symm) e))) (FAB.out W hW) (HQ.out.ext hW);rw [HFS.out,EFL.out] at this;exact this)
       clear hbt hba
       go_wp2_with fail
       have pr31a:=fun u_ (h_:Ext wr u_)=>(h_.cell zb 2).trans c2w
       have pr31b:=fun u_ (h_:Ext wr u_)=>(h_.cell hlbb (lo+j)).trans gl
       have pr31c:=fun u_ (h_:Ext wr u_)=>(h_.cell zg (r.go+b)).trans gw
       refine wp_region_seq (S:=fun W=>Ext wr W) (R:=Ext) (by kernel_rfl) Ext.refl ?_ ?_
       . exact exx
       refine' tkL 0 ?_;refine' tkL 1 ?_;refine' tkL 2 ?_;refine' tkL 3 ?_;refine' tkL 4 ?_;refine' tkL 5 ?_;refine' tkL 6 ?_;refine' tkL 7 ?_;refine' tkL 8 ?_;refine' tkL 9 ?_;refine' tkL 10 ?_;refine' tkL 11 ?_;refine' tkL 12 ?_;refine' tkL 13 ?_;refine' tkL 14 ?_;refine' tkL 15 ?_;refine' tkL 16 ?_;refine' tkL 17 ?_;refine' tkR 18 (v:=.slice (some ⟨r.gb,r.go+(b+4),none⟩) fl (r.wc-(b+4))) rfl (Or.inr ⟨by rfl,88,_, ?hx18_621, ?hy18_621⟩) ?rest18_621
       case hx18_621=>(intro w hSw;go_simp;try with_reducible rfl)
       case hy18_621=>exact fun w hE=>(FLB2.out _ (EW.out.trans hE)).mono (fun _ _ h=>⟨h.1,h.2,Ext.trans hE h.2⟩)
       refine layy ?_;refine' tkL 19 ?_;refine' tkR 20 (v:=.bool false) rfl (Or.inr ⟨by rfl,24,_, ?hx20_623, ?hy20_623⟩) ?rest20_623
       case hx20_623=>(intro w hSw;go_simp;try with_reducible rfl)
       case hy20_623=>exact fun w hE=>(SM.out _ (EW.out.trans hE)).mono (fun _ _ h=>⟨h.1,h.2,Ext.trans hE h.2⟩)
       refine layy ?_;refine' tkL 21 ?_;refine wpAnyR_done (by kernel_rfl) ?_ _;intro x1 _ Ex1;clear pr31a pr31b pr31c;have E2:=hZ (E.out.trans Ex1)
       go_wp2_with fail
       go_roundg (m-(j+1))
       case measure=>omega
       case rel=>exact ⟨j+1,by omega,Nat.le_refl _,by go_num,E2,A2⟩
     have t0:(Hp.ow S.words b == t)=false:=by simpa using hbt
     clear hbt hba;generalize Hp.ow S.words b=y at *
     go_wp2_with fail
     have pr32a:=fun u_ (h_:Ext wr u_)=>(h_.cell zb 2).trans c2w
     have pr32b:=fun u_ (h_:Ext wr u_)=>(h_.cell hlbb (lo+j)).trans gl
     have pr32c:=fun u_ (h_:Ext wr u_)=>(h_.cell zg (r.go+b)).trans gw
     refine wp_region_seq (S:=fun W=>Ext wr W) (R:=Ext) (by kernel_rfl) Ext.refl ?_ ?_
     . exact exx
     refine' tkL 0 ?_;refine' tkL 1 ?_;refine' tkL 2 ?_;refine' tkL 3 ?_;refine' tkL 4 ?_;refine' tkL 5 ?_;refine' tkL 6 ?_;refine' tkL 7 ?_;refine' tkL 8 ?_;refine' tkL 9 ?_;refine' tkL 10 ?_;refine' tkL 11 ?_;refine' tkL 12 ?_;refine' tkN 13 ?_;refine' tkN 14 ?_;refine' tkN 15 ?_;refine' tkN 16 ?_;refine' tkN 17 ?_;refine' tkN 18 ?_;refine' tkN 19 ?_;refine' tkN 20 ?_;refine' tkL 21 ?_;refine wpAnyR_done (by kernel_rfl) ?_ _;intro x1 _ Ex1;clear pr32a pr32b pr32c;have E2:=hZ (E.out.trans Ex1)
     go_wp2_with fail
     go_roundg (m-(j+1))
     case measure=>omega
     case rel=>exact ⟨j+1,by omega,Nat.le_refl _,by go_num,E2,A2⟩
   exfalso;have:j=m:=by omega
   subst this;obtain ⟨i,hi,e⟩:=List.getElem_of_mem HA.out;exact A.out i (by rw [<- EM.out];exact hi) (by rw [List.getElem?_eq_getElem hi,e])
theorem alike_true (h:∀ k,k < l.length->Hp.rd l k=Hp.rd l 0):Hp.Hs.alike l=true:=by
 unfold Hp.Hs.alike
 rw [List.all_eq_true]
 intro x hx
 obtain ⟨k,hk,rfl⟩:=List.getElem_of_mem hx
 have h1:=h k hk
 unfold Hp.rd at h1
 rw [List.getElem?_eq_getElem hk,List.getElem?_eq_getElem (by omega)] at h1
 cases l with
 | nil=>simp at hk
 | cons y r=>
  have:=Option.some.inj h1;simp only [List.getElem_cons_zero] at this;simp [this]
theorem alike_false {y:Int} (h:Hp.rd l k=some x) (h0:Hp.rd l 0=some y) (hne:x ≠ y):Hp.Hs.alike l=false:=by
 cases ha:Hp.Hs.alike l with
 | false=>rfl
 | true=>
  unfold Hp.Hs.alike at ha;rw [List.all_eq_true] at ha;have h1:=ha x (List.mem_of_getElem? h)
  cases l with
  | nil=>simp [Hp.rd] at h0
  | cons z r=>
   have e:z=y:=by simpa [Hp.rd] using h0
   subst e;have:x=z:=by simpa using h1
   exact absurd this hne
set_option maxHeartbeats 2000000 in
theorem dFlat {v:Int} {b:Bool} (h:SliceAt w p c l) (hb:Hp.Hs.alike l=b) :
    Calls Tryz.prog 136 #[.agg #[.int .i64 v,.slice p l.length c]] w fun e w'=>e = .returned (.bool b)/\Ext w w':=by
  have hle:=h.le;have hcap:=h.cap;have H:=hZ h;have HB:=hZ hb;clear h hb;generalize hL:l.length=n at hle ⊢;have HL:=hZ hL;clear hL;go_enter Tryz.func136,Tryz.ntmps136
  go_wp2_with fail
  have E0:Ext w (w.alloc (.cells #[.int .i64 v,.slice p n c] 41)):=exx;have c1:(w.alloc (.cells #[.int .i64 v,.slice p n c] 41)).cell? ⟨w.heap.size,1,none⟩=some (.slice p n c):=by simp [go_sem]
  have z1:w.heap.size < (w.alloc (.cells #[.int .i64 v,.slice p n c] 41)).heap.size:=by simp
  generalize hB:w.heap.size=bx at c1 z1 ⊢;generalize w.alloc (.cells #[.int .i64 v,.slice p n c] 41)=w0 at *;have E0H:=hZ E0;clear E0 hB
  go_loopg [3] (n+1) (fun g i wr=>∃ j:Nat,1<=j/\j<=n+1/\n+1-j<=g/\i = .int .i64 j/\Hid (Ext w0 wr)/\Hid (∀ k,k < j->k < n->Hp.rd l k=Hp.rd l 0))
  case atStart=>exact ⟨1,by omega,by omega,by omega,rfl,hZ (Ext.refl _),hZ (fun k hk _=>by rw [show k=0 by omega])⟩
  case round=>
   obtain ⟨j,hj1,hj,hg,rfl,E,A⟩:=hrel;have c1':=(E.out.cell z1 1).trans c1;have zr:=Nat.lt_of_lt_of_le z1 E.out.le
   by_cases hlt:j < n
   . obtain ⟨x,hx⟩:=rd_get (l:=l) (j:=j) (by rw [HL.out];exact hlt);obtain ⟨y,hy⟩:=rd_get (l:=l) (j:=0) (by rw [HL.out];omega);have EX:=E0H.out.trans E.out;obtain ⟨bb,o,hp,hbb,hc⟩:=(H.out.ext EX).cells (by rw [HL.out];omega);have gx:=hc j x hx;have gy:=hc 0 y hy;rw [Nat.add_zero] at gy;have HX:=hZ hx;have HY:=hZ hy;have tk:decide ((j:Int) < (n:Int))=true:=dT;have n0:0 < n:=by omega
     clear hc hx hy;subst hp
     by_cases hxy:x=y
     . have t0:(x != y)=false:=by simpa using hxy
       have A2:Hid (∀ k,k < j+1->k < n->Hp.rd l k=Hp.rd l 0):=hZ (fun k hk hkn=>by
        by_cases e:k=j
        . subst e;rw [HX.out,HY.out,hxy]
        . exact A.out k (by omega) hkn)
       clear hxy
       go_wp2_with fail
       have pr33a:=fun u_ (h_:Ext wr u_)=>(h_.cell zr 1).trans c1'
       have pr33b:=fun u_ (h_:Ext wr u_)=>(h_.cell hbb (o+j)).trans gx
       have pr33c:=fun u_ (h_:Ext wr u_)=>(h_.cell hbb o).trans gy
       refine wp_region_seq (S:=fun W=>Ext wr W) (R:=Ext) (by kernel_rfl) Ext.refl ?_ ?_
       . exact exx
       refine' tkL 0 ?_;refine' tkL 1 ?_;refine' tkL 2 ?_;refine' tkL 3 ?_;refine' tkL 4 ?_;refine' tkL 5 ?_;refine' tkL 6 ?_;refine' tkL 7 ?_;refine' tkL 8 ?_;refine' tkL 9 ?_;refine wpAnyR_done (by kernel_rfl) ?_ _;intro x1 _ Ex1;clear pr33a pr33b pr33c;have E2:=hZ (E.out.trans Ex1)
       go_wp2_with fail
       go_roundg (n+1-(j+1))
       case measure=>omega
       case rel=>exact ⟨j+1,by omega,by omega,Nat.le_refl _,by go_num,E2,A2⟩
     have t0:(x != y)=true:=by simpa using hxy
     have hbf:b=false:=by rw [<- HB.out];exact alike_false HX.out HY.out hxy
     subst hbf;clear hxy
     go_wp2_with fail
     have pr34a:=fun u_ (h_:Ext wr u_)=>(h_.cell zr 1).trans c1'
     have pr34b:=fun u_ (h_:Ext wr u_)=>(h_.cell hbb (o+j)).trans gx
     have pr34c:=fun u_ (h_:Ext wr u_)=>(h_.cell hbb o).trans gy
     refine wp_region_seq (S:=fun W=>Ext wr W) (R:=Ext) (by kernel_rfl) Ext.refl ?_ ?_
     . exact exx
     refine' tkL 0 ?_;refine' tkL 1 ?_;refine' tkL 2 ?_;refine' tkL 3 ?_;refine' tkL 4 ?_;refine' tkL 5 ?_;refine' tkL 6 ?_;refine' tkL 7 ?_;refine' tkL 8 ?_;refine' tkL 9 ?_;refine wpAnyR_done (by kernel_rfl) ?_ _;intro x1 _ Ex1;clear pr34a pr34b pr34c
     go_wp2_with fail
     go_returns;exact ⟨rfl,EX.trans Ex1⟩
   have tk:decide ((j:Int) < (n:Int))=false:=dF;have hbt:b=true:=by
    rw [<- HB.out];exact alike_true fun k hk=>A.out k (by have:=HL.out;omega) (by have:=HL.out;omega)
   subst hbt
   go_wp2_with fail
   go_returns;exact ⟨rfl,E0H.out.trans E.out⟩
set_option maxRecDepth 100000 in
set_option maxHeartbeats 4000000 in
theorem rCheckNode {ch:Nat->List Nat} (h:RAt w r S) (hw:Hp.Wf S B L ch) (ha:a ∈ S.taken) (he:Hp.isEnd (Hp.ow S.words a)=false) {qc:Nat} (hq:SliceAt w q qc (Hp.fz (Hp.ow S.words) S.sizes a)) :
    Calls Tryz.prog 135 #[.pointer (some ⟨r.rb,0,none⟩),.int .i64 (Hp.ow S.words a-1),.slice q (Hp.fz (Hp.ow S.words) S.sizes a).length qc] w fun e w'=>e = .returned (.int .i64 0)/\Ext w w':=by
  have hn:=Hp.isNode_of (hw.cells.tags a ha) he;have hm:=order_mem hw.fr hn;obtain ⟨k,k1,k2,k3⟩:=index_spec hm;have hrk:Hp.rank S.order (Hp.ow S.words a)=(k:Int):=by rw [rank_node (z:=S.sizes) he,k1]
  have PL:=hZ (fun W (hW:Ext w W)=>rPlace (h.ext hW) k2 k3);have KID:∀ i,i < (Hp.fz (Hp.ow S.words) S.sizes a).length -> ∃ b:Nat,Hp.rd (Hp.fz (Hp.ow S.words) S.sizes a) i=some (b:Int)/\b ∈ S.taken/\(k:Int) < Hp.rank S.order (Hp.ow S.words b):=fun i hi=>by
   have hmm:(Hp.fz (Hp.ow S.words) S.sizes a)[i] ∈ Hp.kz (Hp.ow S.words) S.sizes a:=by
    unfold Hp.kz;rw [he];simp only [Bool.false_eq_true,if_false];exact List.getElem_mem hi
   obtain ⟨b,hb,e,hr⟩:=hw.cells.kids a ha _ hmm;rw [hrk] at hr;exact ⟨b,by unfold Hp.rd;rw [List.getElem?_eq_getElem hi,e],hb,hr⟩
  simp only [Hp.isNode,Hp.within,Bool.and_eq_true,decide_eq_true_eq] at hn;have few:=hw.fr.few;have hsz:∃ i:Nat,Hp.ow S.words a=(i:Int)+1/\i < S.sizes.length/\Hp.rd S.sizes i=some ((Hp.fz (Hp.ow S.words) S.sizes a).length:Int):=by
   refine ⟨(Hp.ow S.words a-1).toNat,by omega,by omega, ?_⟩;have hl:(Hp.ow S.words a-1).toNat < S.sizes.length:=by omega
   rw [Hp.rd_ow hl,Hp.fz_length];unfold Hp.wz;rw [he];have hp:=hw.fr.pos _ (List.getElem_mem hl);have e2:S.sizes.getD (Hp.ow S.words a-1).toNat 0=Hp.ow S.sizes (Hp.ow S.words a-1).toNat:=rfl;have e3:Hp.ow S.sizes (Hp.ow S.words a-1).toNat=S.sizes[(Hp.ow S.words a-1).toNat]:=(Hp.ow_rd (by unfold Hp.rd;rw [List.getElem?_eq_getElem hl])).1;rw [e2];simp only [Bool.false_eq_true,if_false];rw [e3] at *
   congr 1
   omega
  obtain ⟨i,hi1,hi2,hi3⟩:=hsz;have IS:=hZ (fun b (hb:b ∈ S.taken) W (hW:Ext w W)=>rIs_yes (h.ext hW) hw hb);have RK:=hZ (fun b (hb:b ∈ S.taken) W (hW:Ext w W)=>rRank (h.ext hW) hw hb);have H:=hZ h;have HQ:=hZ hq;have HK:=hZ KID;have qle:=hq.le;have qcap:=hq.cap;have sle:=h.sizes.le;have scap:=h.sizes.cap;obtain ⟨sb,so,hsp,hsb,hsc⟩:=h.sizes.cells (by omega);have gs:=hsc i _ hi3;have c0:=h.c0;rw [hsp] at c0;have hlt:=h.lt;have hkb:k<=100:=by
   have:=rd_lt k2;have:=hw.fr.len;omega
  have hrl:∀ b,b ∈ S.taken->Hp.rank S.order (Hp.ow S.words b)<=100:=fun b hb=>by
   unfold Hp.rank
   split
   . have:=hw.fr.len;omega
   unfold Hp.index
   split
   . rename_i j hj;rw [List.findIdx?_eq_some_iff_getElem] at hj;have:=hj.1;have:=hw.fr.len;omega
   omega
  have HRL:=hZ hrl;rw [hi1] at PL ⊢;rw [show (i:Int)+1-1=(i:Int) by omega] at PL ⊢;obtain ⟨fs,hfs⟩:∃ fs,Hp.fz (Hp.ow S.words) S.sizes a=fs:=⟨_,rfl⟩
  rw [hfs] at gs qle HQ HK ⊢;obtain ⟨m,hm'⟩:∃ m,fs.length=m:=⟨_,rfl⟩
  have EM:=hZ hm';rw [hm'] at gs qle ⊢;obtain ⟨n,hn'⟩:∃ n,S.sizes.length=n:=⟨_,rfl⟩
  rw [hn'] at c0 sle few hi2;have IN:Hid (∀ W,Calls Tryz.prog 66 #[.int .i64 (i:Int),.int .i64 0,.int .i64 ((n:Int)-1)] W fun e w'=>e = .returned (.bool true)/\Ext W w'):=hZ (fun W=>by
   have:=dIn (i:Int) 0 ((n:Int)-1) W;rw [show Hp.within 0 ((n:Int)-1) (i:Int)=true by simp [Hp.within];omega] at this;exact this)
  clear h hw ha he hq KID hn hm k1 k2 k3 hrk hi1 hi3 hsc hsp hfs hm' hn' hrl;go_enter Tryz.func135,Tryz.ntmps135
  go_wp2_with (go_at_call 66;refine (IN.out _).mono ?_;rintro e w1 ⟨rfl,hb1⟩;obtain ⟨hc1,hf1,hs1⟩:=hb1.cells;have c0':=(hb1.cell hlt 0).trans c0;have gs':=(hb1.cell hsb (so+i)).trans gs)
  have E1:=hZ hb1;clear hb1 hc1 hf1 hs1 c0' gs'
  go_loopg [7] m (fun g s wr=>∃ j:Nat,j<=m/\m-j<=g/\s = .int .i64 j/\Hid (Ext w wr))
  case atStart=>exact ⟨0,Nat.zero_le _,by omega,rfl,E1⟩
  case round=>
   obtain ⟨j,hj,hg,rfl,E⟩:=hrel
   by_cases hlt2:j < m
   . obtain ⟨b,hb1,hb2,hb3⟩:=HK.out j (by rw [EM.out];exact hlt2);obtain ⟨qb,qo,hqp,hqb,hqc⟩:=(HQ.out.ext E.out).cells (by rw [EM.out];omega);have gq:=hqc j _ hb1;have ISB:=hZ (fun W (hW:Ext w W)=>IS.out b hb2 W hW);have tk:decide ((j:Int) < (m:Int))=true:=dT;clear hqc hb1 hb2 hb3;subst hqp
     go_wp2_with (go_at_call 26;refine (ISB.out _ E.out).mono ?_;rintro e w2 ⟨rfl,hE2⟩)
     have E2:=hZ (E.out.trans hE2)
     go_roundg (m-(j+1))
     case measure=>omega
     case rel=>exact ⟨j+1,by omega,Nat.le_refl _,by go_num,E2⟩
   have tk:decide ((j:Int) < (m:Int))=false:=dF
   go_wp2_with fail
   clear tk hj hg hlt2 E1
   go_loopg [8] m (fun g s wr=>∃ j:Nat,j<=m/\m-j<=g/\s = .int .i64 j/\Hid (Ext w wr))
   case atStart=>exact ⟨0,Nat.zero_le _,by omega,rfl,E⟩
   case round=>
    obtain ⟨j,hj,hg,rfl,E⟩:=hrel
    by_cases hlt2:j < m
    . obtain ⟨b,hb1,hb2,hb3⟩:=HK.out j (by rw [EM.out];exact hlt2);obtain ⟨qb,qo,hqp,hqb,hqc⟩:=(HQ.out.ext E.out).cells (by rw [EM.out];omega);have gq:=hqc j _ hb1;have RKB:=hZ (fun W (hW:Ext w W)=>RK.out b hb2 W hW);have hb4:=HRL.out b hb2;have tk:decide ((j:Int) < (m:Int))=true:=dT;clear hqc hb1 hb2;generalize Hp.rank S.order (Hp.ow S.words b)=rk at *;have t0:decide (rk<=(k:Int))=false:=dF;subst hqp
      go_wp2_with (first
       | (go_at_call 172;refine (RKB.out _ E.out).mono ?_;rintro e w2 ⟨rfl,hE2⟩)
       | (go_at_call 173;refine (PL.out _ (E.out.trans hE2)).mono ?_;rintro e w3 ⟨rfl,hE3⟩))
      have E2:=hZ (E.out.trans (hE2.trans hE3))
      go_roundg (m-(j+1))
      case measure=>omega
      case rel=>exact ⟨j+1,by omega,Nat.le_refl _,by go_num,E2⟩
    have tk:decide ((j:Int) < (m:Int))=false:=dF
    go_wp2_with fail
    go_returns;exact ⟨rfl,E.out⟩
theorem Row.words (h:Row w base (some ⟨g,0,none⟩) c l):WordsAt w g l/\l.length<=c/\c<=9223372036854775807:=by
 rcases h.1 with ⟨hx,⟨e,_⟩ | ⟨g',cap,cur,e,h1,hg,h2,h3,h4,h5⟩⟩
 . injection e with e1
   cases e1
 injection e with e1 e2 e3
 injection e1 with e1
 injection e1 with e1 _ _
 subst e1 e3
 rw [Nat.mul_one] at h5
 refine ⟨⟨⟨cur.toList.drop l.length, ?_⟩,h.2⟩,h2,by unfold maxLen at h3;omega⟩
 rw [<- h5,List.take_append_drop]
 exact hg
theorem load_cut {P:Program} {cd:Code} {Q:Exit->Act->World->Prop} {act:Act} {W:World} {hb gw gm c2 c3 c4 m2 m3:Nat} {p2 p3:Option Addr}
    (_:act.tmps[26]? = some (.agg #[.slice p2 m2 c2,.slice p3 m3 c3,.slice (some ⟨gw,0,none⟩) n c4,.map (some gm)])) (_:act.tmps[27]? = some (.pointer (some ⟨hb,0,none⟩))) (_:act.tmps[29]? = some (.pointer (some ⟨lb,0,none⟩)))
    (h:HAt W ⟨hb,gw,gm,c4,p2,c2,p3,c3⟩ { S with taken:=[] }) (e:Ext w W) (h0:W.cell? ⟨lb,0,none⟩=some (.pointer (some ⟨hb,0,none⟩))) (h1:W.cell? ⟨lb,1,none⟩=some (.slice none 0 0)) (fz:∀ k,W.frozen? ⟨lb,k,none⟩=false)
    (ho:(w.heap.size<=hb/\w.heap.size<=gw/\w.heap.size<=gm)/\(∀ b o,p2=some ⟨b,o,none⟩->w.heap.size<=b/\b < lb)/\(∀ b o,p3=some ⟨b,o,none⟩->w.heap.size<=b/\b < lb)/\w.heap.size<=lb/\hb < lb/\gw < lb/\gm < lb)
    (k:∀ W',LdAt w W' lb ⟨hb,gw,gm,c4,p2,c2,p3,c3⟩ { S with taken:=[] } (.slice none 0 0) none 0 []->((w.heap.size<=hb/\w.heap.size<=gw/\w.heap.size<=gm)/\(∀ b o,p2=some ⟨b,o,none⟩->w.heap.size<=b) /\ ∀ b o,p3=some ⟨b,o,none⟩->w.heap.size<=b)->cd.wp P Q act W'):cd.wp P Q act W:=by
  obtain ⟨⟨o1,o2,o3⟩,o4,o5,o6,o7,o8,o9⟩:=ho
  refine k W
   { toHAt:=h
     ext0:=e
     h0:=h0
     h1:=h1
     fz:=fz
     r:=Row.nil _ _
     lb0:=o6
     own0:=fun b hb=>by
      simp only [Hd.own,List.mem_cons,List.not_mem_nil,or_false] at hb;omega
     lbn:=fun hb=>by
      simp only [Hd.own,List.mem_cons,List.not_mem_nil,or_false] at hb;omega
     n:=fun b o e=>by cases e
     spn:=fun b o e=>⟨by have:=(o4 b o e).2;omega,fun _ e=>by cases e⟩
     opn:=fun b o e=>⟨by have:=(o5 b o e).2;omega,fun _ e=>by cases e⟩ } ⟨⟨o1,o2,o3⟩,fun b o e=>(o4 b o e).1,fun b o e=>(o5 b o e).1⟩
set_option maxRecDepth 100000 in
set_option maxHeartbeats 4000000 in
theorem Load_any {d go wc:Nat} {ch:Nat->List Nat} (hs:SliceAt w p c S.sizes) (ho:SliceAt w q d S.order) (hw':SliceAt w (some ⟨gb,go,none⟩) wc S.words) (hp:0 < S.sizes.length \/ p=none) (hq:0 < S.order.length \/ q=none) (hw:Hp.Wf S B L ch) (he:Hp.newErr S.sizes S.order S.words.length=0) :
    Calls Tryz.prog 16 #[.slice p S.sizes.length c,.slice q S.order.length d,.slice (some ⟨gb,go,none⟩) S.words.length wc] w (NewPost w S):=by
  have few:=hw.fr.few;have hol:S.order.length<=1000000:=by have:=hw.fr.len;omega
  have hlo:=hw.lo;have hhi:=hw.hi;have hgl:=Hp.gapsOf_len hw.parts.lay;have HC:=hZ (he ▸ hcheck_any (words:=(S.words.length:Int)) hs ho hq hol);have HS:=hZ hs;have HO:=hZ ho;have HW:=hZ hw';have HF:=hZ hw;clear hs ho he hw' hw;have mixed:Tryz.prog.follows .mixedOrders=true:=by kernel_rfl
  have hmm:=@run_makeMap Tryz.prog;go_enter Tryz.func16,Tryz.ntmps16;go_upto_region 4 with (go_at_call 59;refine (HC.out).mono ?_;rintro e w1 ⟨rfl,hb1⟩;obtain ⟨hc1,hf1,hs1⟩:=hb1.cells)
  clear hc1 hf1 hs1
  go_upto_region 5 with (first
   | (go_at_call_of 60 (Value.slice p S.sizes.length c);refine (sClone_any (HS.out.ext (exx)) hp (by omega)).mono ?_;rintro e w2 ⟨p2,c2,rfl,hR2,hb2,hg2⟩)
   | (go_at_call_of 60 (Value.slice q S.order.length d);refine (sClone_any (HO.out.ext (exx)) hq hol).mono ?_;rintro e w3 ⟨p3,c3,rfl,hR3,hb3,hg3⟩)
   | (go_at_call 60;refine (sClone_any (HW.out.ext (exx)) (.inl (by omega)) (by omega)).mono ?_;rintro e w4 ⟨p4,c4,rfl,hR4,hb4,hg4⟩;obtain ⟨g4,rfl⟩:=hg4 (by omega)))
  have q1:=hb1.le;have q2:=hb2.le;have q3:=hb3.le;have q4:=hb4.le
  (try simp at q2)
  (try simp at q3)
  (try simp at q4)
  have r4:=hR4.far rfl
  (try simp at r4)
  have W4:=hR4.words;have l4:=hR4.lt rfl;refine load_cut (S:=S) (w:=w) (by rfl) (by rfl) (by rfl) ?hat ?ext ?h0 ?h1 ?fz ?low ?rest
  case ext=>exact exx
  case h0=>go_simp
  case h1=>go_simp
  case fz=>intro k;go_simp
  case low=>
   refine ⟨⟨?_, ?_, ?_⟩,fun b o e=>?_,fun b o e=>?_, ?_, ?_, ?_, ?_⟩
   . omega
   . omega
   . omega
   . have h1:=hR2.far e;have h2:=hR2.lt e
     (try simp at h1)
     omega
   . have h1:=hR3.far e;have h2:=hR3.lt e
     (try simp at h1)
     omega
   . omega
   . omega
   . omega
   omega
  case hat=>
   exact
    { c0:=by go_simp
      c1:=by go_simp
      c2:=by go_simp
      c3:=by go_simp
      f2:=by go_simp
      sizes:=(hR2.at_).ext (exx)
      order:=(hR3.at_).ext (exx)
      words:=W4.1.ext (exx)
      le:=W4.2.1
      cap:=W4.2.2
      map:=by
       refine MapAt.ext (map_at w4 _ ?_) ?_
       . (simp;done)
       exact exx
      below:=by simp
      apart1:=by simp only [ne_eq];omega
      apart2:=by simp only [ne_eq];omega
      apart3:=by simp only [ne_eq];omega
      far1:=fun b o e hm=>by
       have h1:=hR2.far e;have h2:=hR2.lt e
       (try simp at h1)
       simp only [Hd.own,List.mem_cons,List.not_mem_nil,or_false] at hm;omega
      far2:=fun b o e hm=>by
       have h1:=hR3.far e;have h2:=hR3.lt e
       (try simp at h1)
       simp only [Hd.own,List.mem_cons,List.not_mem_nil,or_false] at hm;omega
      pos:=HF.out.fr.pos
      small:=by simp only;omega
      few:=few
      old1:=fun b o e=>by
       have h2:=hR2.lt e;simp;omega
      old2:=fun b o e=>by
       have h2:=hR3.lt e;simp;omega }
  case rest=>
   clear hmm hR2 hR3 hR4 hb1 hb2 hb3 hb4 hg2 hg3 hg4 q1 q2 q3 q4 r4 W4 l4 HC HS HO HW hp hq;intro w9 H9 lo;have N0:=hZ H9;have LO:=hZ lo;clear H9 lo;have WK:=hZ HF.out.walk
   go_wp2_with (first
    | go_loud (go_at_call 61;refine (lwalk_any N0.out WK.out).mono ?_;rintro e w10 ⟨_,⟨hno,_⟩ | ⟨T,G,p,k,hR,rfl,hL⟩⟩;cases hno;cases hR;have N:=hZ (show LdAt w w10 _ _ S _ _ _ _ from hL);clear N0 hL)
    | go_loud (go_at_call 62;refine (isLinked_any N.out HF.out.gaps (by omega) (by omega) HF.out.linked).mono ?_;rintro e w11 ⟨rfl,E11⟩;have N1:=hZ (N.out.ext E11);clear N E11)
    | (go_at_call 63;refine (areCells_any N1.out HF.out).mono ?_;rintro e w12 ⟨rfl,E12⟩;have N2:=hZ (N1.out.ext E12);clear N1 E12)
    | (go_at_call 64;refine (areUsed_any N2.out HF.out).mono ?_;rintro e w13 ⟨rfl,E13⟩;have N3:=hZ (N2.out.ext E13);clear N2 E13)
    | (go_at_call 65;refine (areChained_any N3.out HF.out.chainsOk (by omega) HF.out.chained).mono ?_;rintro e w14 ⟨rfl,E14⟩;have N4:=hZ (N3.out.ext E14);have h0:=N4.out.h0;clear N3 E14))
   go_ret2
   exact ⟨_,rfl,N4.out.toHAt,N4.out.own0,N4.out.ext0,LO.out.2.1,LO.out.2.2⟩
def IntsPost (w:World) (l:List Int) (e:Ending) (w':World):Prop:=∃ p c,e = .returned (.slice p l.length c)/\Row w' w.heap.size p c l/\Ext w w'/\(0 < l.length \/ p=none)
set_option maxHeartbeats 4000000 in
theorem ints_any (h:SliceAt w p c l) (hp:p=none->c=0) (hl:l.length<=1000000) :
    Calls Tryz.prog 17 #[.slice p l.length c] w (IntsPost w l):=by
  obtain ⟨i0,hi,hz0,hz1,hz2⟩:=info_parts (show (Tryz.prog.info? 3).map (fun i=>(i.zero,i.size,i.bytes))=some (some (.int .i64 0),1,8) from by kernel_rfl);have main:∀ ad:Addr,p=some ad->(∀ j u,(ints l)[j]? = some u->w.cell? (ad.add j)=some u)->Calls Tryz.prog 17 #[.slice p l.length c] w (IntsPost w l):=by
   rintro ad rfl hc;have HC:=hZ hc;have WF:=hZ h.wf;clear h hc hp;go_enter Tryz.func17,Tryz.ntmps17
   go_wp2_with (at_builtin;refine Go.wpList_append_own _ rfl _ _ 22 rfl w.heap.size 3 i0 (.int .i64 0) 1 8 Tryz.underlying22 hi hz0 hz1 hz2 rfl (by decide) _ 0 [] rfl (World.ownsRow_nil w _ _ _) ad l.length c (ints l) rfl ?qc1 ?qc2 ?qc3 ?qc4 ?qc5 ?qc6 ?_)
   case qc1=>simp [ints]
   case qc2=>exact HC.out
   case qc3=>intro u hu;obtain ⟨x,_,rfl⟩:=List.mem_map.1 hu;rfl
   case qc4=>unfold maxLen;omega
   case qc5=>omega
   case qc6=>omega
   intro v' w1 hown hgrow hnil;go_wp2;go_returns;have hE:Ext w w1:=((Below.refl _ w)).grown hgrow (by simp) (by intro k hk;simp [Value.ownBlock] at hk)
   rcases hown.2 with ⟨rfl,hz⟩ | ⟨g,cap,cur,rfl,h1,h2⟩
   . have hz':l.length=0:=by omega
     have:l=[]:=List.eq_nil_of_length_eq_zero hz';subst this;exact ⟨none,0,rfl,Row.nil _ _,hE,.inr rfl⟩
   refine ⟨some ⟨g,0,none⟩,cap,by simp,⟨by simpa using hown,WF.out⟩,hE,.inl ?_⟩
   rcases Nat.eq_zero_or_pos l.length with h0 | h0
   . have:=hnil.2 (List.eq_nil_of_length_eq_zero h0)
     cases this
   exact h0
  by_cases h0:0 < l.length
  . obtain ⟨b,o,rfl,hb,hc⟩:=h.cells h0;refine main _ rfl fun j u hj=>?_
    obtain ⟨hj1,hj2⟩:=List.getElem?_eq_some_iff.1 hj;have hj3:j < l.length:=by simpa [ints] using hj1
    rw [Addr.add_lit,hc j l[j] (List.getElem?_eq_getElem hj3),<- hj2];simp [ints]
  have hl0:l=[]:=List.eq_nil_of_length_eq_zero (by omega)
  cases p with
  | some ad=>exact main ad rfl fun j u hj=>by subst hl0;simp [ints] at hj
  | none=>
   have:=hp rfl;subst this hl0;clear h hp main h0;go_enter Tryz.func17,Tryz.ntmps17;go_wp2;go_returns;exact ⟨none,0,rfl,Row.nil _ _,exx,.inr rfl⟩
set_option maxHeartbeats 4000000 in
theorem dProduct (h:SliceAt w p c l) (hb:∀ s ∈ l,1<=s/\s<=12) :
    Calls Tryz.prog 119 #[.slice p l.length c,.int .i64 0] w fun e w'=>e = .returned (.int .i64 (Hp.prodM l))/\Ext w w':=by
  have hle:=h.le;have hcap:=h.cap;have H:=hZ h;have HB:=hZ hb;clear h hb;obtain ⟨n,hL⟩:∃ n,l.length=n:=⟨_,rfl⟩
  have HL:=hZ hL;rw [hL] at hle ⊢;clear hL;go_enter Tryz.func119,Tryz.ntmps119
  go_wp2_with fail
  go_loopg [5,6] n (fun g s i wr=>∃ (j:Nat) (m:Int),j<=n/\n-j<=g/\i = .int .i64 j/\s = .int .i64 m/\0<=m/\m<=3000/\Hid (m=Hp.prodM (l.take j))/\Hid (Ext w wr))
  case atStart=>exact ⟨0,1,Nat.zero_le _,by omega,rfl,rfl,by omega,by omega,hZ rfl,hZ exx⟩
  case round=>
   obtain ⟨j,m,hj,hg,rfl,rfl,hm0,hm1,HP,E⟩:=hrel
   by_cases hlt:j < n
   . obtain ⟨x,hx⟩:=rd_get (l:=l) (j:=j) (by rw [HL.out];exact hlt);have hxb:=HB.out x (List.mem_of_getElem? hx);obtain ⟨b,o,rfl,hb,hcell⟩:=(H.out.ext E.out).cells (by rw [HL.out];omega);have gx:=hcell j x hx;have hp1:m * x<=36000:=by
      have:=Int.mul_le_mul hm1 hxb.2 (by omega) (by omega);omega
     have hp0:0<=m * x:=Int.mul_nonneg hm0 (by omega);have HP2:=hZ (show min 3000 (m * x)=Hp.prodM (l.take (j+1)) by rw [take_snocI hx,Hp.prodM_snoc,HP.out]);clear hcell hx hxb HP;generalize he:m * x=qv at hp0 hp1 HP2;have e2:wrap64 (m * x)=qv:=by rw [he];exact IntWalk.wrap64_in _ ⟨by omega,by omega⟩
     clear he
     go_wp2_with fail
     go_roundg (n-(j+1))
     case measure=>omega
     case rel=>exact ⟨j+1,min 3000 qv,by omega,Nat.le_refl _,by go_num,rfl,by omega,by omega,HP2,E⟩
   have:j=n:=by omega
   subst this;have hp:=HP.out;rw [<- HL.out,List.take_length] at hp;subst hp
   go_wp2_with fail
   go_returns;exact ⟨rfl,E.out⟩
set_option maxHeartbeats 4000000 in
theorem dIsOrder {d:Nat} {b:Bool} (h:SliceAt w q d o) (hn:n<=1000) (hb:b=true ↔ Hp.OrdOk n o) :
    Calls Tryz.prog 120 #[.slice p n c,.slice q o.length d] w fun e w'=>e = .returned (.bool b)/\Ext w w':=by
  have hle:=h.le;have hcap:=h.cap;have H:=hZ h;have HB:=hZ hb;clear h hb
  by_cases hq:o.length=n
  . rw [hq] at hle ⊢;have HL:=hZ hq;clear hq;have tq:((n:Int) != (n:Int))=false:=by simp
    go_enter Tryz.func120,Tryz.ntmps120
    go_wp2_with fail
    go_loopg [5] n (fun g i wr=>∃ j:Nat,j<=n/\n-j<=g/\i = .int .i64 j/\Hid (Hp.OrdTo n o j)/\Hid (Ext w wr))
    case atStart=>exact ⟨0,Nat.zero_le _,by omega,rfl,hZ (fun k x hk=>by omega),hZ exx⟩
    case round=>
     obtain ⟨j,hj,hg,rfl,A,E⟩:=hrel
     by_cases hlt:j < n
     . obtain ⟨x,hx⟩:=rd_get (l:=o) (j:=j) (by rw [HL.out];exact hlt);have HX:=hZ hx;obtain ⟨bb,oo,rfl,hbb,hcell⟩:=(H.out.ext E.out).cells (by rw [HL.out];omega);have gx:=hcell j x hx;have HC:=hZ hcell;have tk:decide ((j:Int) < (n:Int))=true:=dT;have sb:IntKind.i64.wrap ((n:Int)-1)=(n:Int)-1:=IntWalk.i64_in _ (by omega);clear hcell hx
       cases hw:Hp.within 0 ((n:Int)-1) x with
       | false=>
        have hbf:b=false:=by
         cases b with
         | false=>rfl
         | true=>
          have h1:=(HB.out.1 rfl).2 j x hlt HX.out;simp [Hp.within,h1.1] at hw
        subst hbf;have HI:=hZ (fun W=>hw ▸ dIn x 0 ((n:Int)-1) W);clear hw
        go_wp2_with (go_at_call 66;refine (HI.out _).mono ?_;rintro e w1 ⟨rfl,hb1⟩;obtain ⟨hc1,hf1,hs1⟩:=hb1.cells)
        go_returns;exact ⟨rfl,E.out.trans hb1⟩
       | true=>
        have hwi:0<=x/\x<=(n:Int)-1:=by simpa [Hp.within] using hw
        have HI:=hZ (fun W=>hw ▸ dIn x 0 ((n:Int)-1) W);clear hw
        go_wp2_with (go_at_call 66;refine (HI.out _).mono ?_;rintro e w1 ⟨rfl,hb1⟩;obtain ⟨hc1,hf1,hs1⟩:=hb1.cells)
        have E1:=hZ (E.out.trans hb1);have E1l:=hZ hb1;have zb:=Nat.lt_of_lt_of_le hbb hb1.le
        go_loopg [6] (j+1) (fun g i wr=>∃ k:Nat,k<=j/\j+1-k<=g/\i = .int .i64 k/\Hid (∀ m y,m < k->Hp.rd o m=some y->y ≠ x)/\Hid (Ext w1 wr))
        case atStart=>exact ⟨0,Nat.zero_le _,by omega,rfl,hZ (fun m y hm=>by omega),hZ (Ext.refl _)⟩
        case round=>
         obtain ⟨k,hk,hg2,rfl,A2,E2⟩:=hrel
         by_cases hkj:k < j
         . obtain ⟨y,hy⟩:=rd_get (l:=o) (j:=k) (by rw [HL.out];omega);have HY:=hZ hy;have gx':=(E2.out.cell zb (oo+j)).trans ((E1l.out.cell hbb _).trans gx);have gy':=(E2.out.cell zb (oo+k)).trans ((E1l.out.cell hbb _).trans (HC.out k y hy));have zr:=Nat.lt_of_lt_of_le zb E2.out.le;have tk2:decide ((k:Int) < (j:Int))=true:=dT;have kn:k < n:=by omega
           clear hy
           by_cases hxy:y=x
           . have t0:(y == x)=true:=by simpa using hxy
             have hbf:b=false:=by
              cases b with
              | false=>rfl
              | true=>exact absurd hxy (((HB.out.1 rfl).2 j x hlt HX.out).2 k y hkj HY.out)
             subst hbf;clear hxy
             go_wp2_with fail
             have pr44a:=fun u_ (h_:Ext wr u_)=>(h_.cell zr (oo+j)).trans gx'
             have pr44b:=fun u_ (h_:Ext wr u_)=>(h_.cell zr (oo+k)).trans gy'
             refine wp_region_seq (S:=fun W=>Ext wr W) (R:=Ext) (by kernel_rfl) Ext.refl ?_ ?_
             . exact exx
             refine' tkL 0 ?_;refine' tkL 1 ?_;refine' tkL 2 ?_;refine' tkL 3 ?_;refine' tkL 4 ?_;refine' tkL 5 ?_;refine' tkL 6 ?_;refine' tkL 7 ?_;refine' tkL 8 ?_;refine wpAnyR_done (by kernel_rfl) ?_ _;intro x1 _ Ex1;clear pr44a pr44b
             go_wp2_with fail
             go_returns;exact ⟨rfl,(E1.out.trans E2.out).trans Ex1⟩
           have t0:(y == x)=false:=by simpa using hxy
           have A3:=hZ (show ∀ m z,m < k+1->Hp.rd o m=some z->z ≠ x from fun m z hm hz=>by
            by_cases e:m=k
            . subst e;rw [HY.out] at hz
              cases hz
              exact hxy
            . exact A2.out m z (by omega) hz)
           clear hxy
           go_wp2_with fail
           have pr45a:=fun u_ (h_:Ext wr u_)=>(h_.cell zr (oo+j)).trans gx'
           have pr45b:=fun u_ (h_:Ext wr u_)=>(h_.cell zr (oo+k)).trans gy'
           refine wp_region_seq (S:=fun W=>Ext wr W) (R:=Ext) (by kernel_rfl) Ext.refl ?_ ?_
           . exact exx
           refine' tkL 0 ?_;refine' tkL 1 ?_;refine' tkL 2 ?_;refine' tkL 3 ?_;refine' tkL 4 ?_;refine' tkL 5 ?_;refine' tkL 6 ?_;refine' tkL 7 ?_;refine' tkL 8 ?_;refine wpAnyR_done (by kernel_rfl) ?_ _;intro x1 _ Ex1;clear pr45a pr45b;have E3:=hZ (E2.out.trans Ex1)
           go_wp2_with fail
           go_roundg (j+1-(k+1))
           case measure=>omega
           case rel=>exact ⟨k+1,by omega,Nat.le_refl _,by go_num,A3,E3⟩
         have tk2:decide ((k:Int) < (j:Int))=false:=dF;have:k=j:=by omega
         subst this;have E3:=hZ (E1.out.trans E2.out);have A3:=hZ (show Hp.OrdTo n o (k+1) from fun m z hm hz=>by
          by_cases e:m=k
          . subst e;rw [HX.out] at hz
            cases hz
            exact ⟨hwi,A2.out⟩
          . exact A.out m z (by omega) hz)
         go_wp2_with fail
         go_roundg (n-(k+1))
         case measure=>omega
         case rel=>exact ⟨k+1,by omega,Nat.le_refl _,by go_num,A3,E3⟩
     have:j=n:=by omega
     subst this;have tk:decide ((j:Int) < (j:Int))=false:=dF;have hbt:b=true:=HB.out.2 ⟨HL.out,A.out⟩;subst hbt
     go_wp2_with fail
     go_returns;exact ⟨rfl,E.out⟩
  have tq:((o.length:Int) != (n:Int))=true:=by
   have:(o.length:Int) ≠ (n:Int):=by omega
   simpa using this
  have hbf:b=false:=by
   cases b with
   | false=>rfl
   | true=>exact absurd (HB.out.1 rfl).1 hq
  subst hbf;clear hq;go_enter Tryz.func120,Tryz.ntmps120
  go_wp2_with fail
  go_returns;exact ⟨rfl,exx⟩
set_option maxRecDepth 100000 in
set_option maxHeartbeats 4000000 in
theorem dCheckFrame {d:Nat} (hs:SliceAt w p c z) (ho:SliceAt w q d o) :
    Calls Tryz.prog 57 #[.slice p z.length c,.slice q o.length d] w fun e w'=>e = .returned (.int .i64 (Hp.frameErr z o))/\Ext w w':=by
  have hle:=hs.le;have hcap:=hs.cap;have H:=hZ hs;have HO:=hZ ho;clear hs ho
  by_cases h6:z.length > 6
  . have e:Hp.frameErr z o=5:=by unfold Hp.frameErr;rw [if_pos h6]
    have t6:decide ((z.length:Int) > 6)=true:=dT;rw [e];clear e;go_enter Tryz.func57,Tryz.ntmps57
    go_wp2_with fail
    go_returns;exact ⟨rfl,exx⟩
  obtain ⟨ee,hee⟩:∃ ee,Hp.frameErr z o=ee:=⟨_,rfl⟩
  rw [hee];have HE:=hZ hee;clear hee;obtain ⟨n,hL⟩:∃ n,z.length=n:=⟨_,rfl⟩
  have HL:=hZ hL;rw [hL] at hle h6 ⊢;clear hL;have t6:decide ((n:Int) > 6)=false:=dF;go_enter Tryz.func57,Tryz.ntmps57
  go_wp2_with fail
  go_loopg [5] n (fun g i wr=>∃ j:Nat,j<=n/\n-j<=g/\i = .int .i64 j/\Hid (∀ k x,k < j->Hp.rd z k=some x->1<=x/\x<=12)/\Hid (Ext w wr))
  case atStart=>exact ⟨0,Nat.zero_le _,by omega,rfl,hZ (fun k x hk=>by omega),hZ exx⟩
  case round=>
   obtain ⟨j,hj,hg,rfl,A,E⟩:=hrel
   by_cases hlt:j < n
   . obtain ⟨x,hx⟩:=rd_get (l:=z) (j:=j) (by rw [HL.out];exact hlt);have HX:=hZ hx;obtain ⟨bb,oo,rfl,hbb,hcell⟩:=(H.out.ext E.out).cells (by rw [HL.out];omega);have gx:=hcell j x hx;have tk:decide ((j:Int) < (n:Int))=true:=dT;clear hcell hx
     cases hw:Hp.within 1 12 x with
     | false=>
      have he:ee=3:=by
       have h1:=HE.out;unfold Hp.frameErr at h1;rw [if_neg (by have:=HL.out;omega),if_pos] at h1
       . exact h1.symm
       apply Classical.byContradiction;intro hc;have h2:=List.all_eq_true.1 (by simpa using hc:z.all (fun n=>decide (1<=n) && decide (n<=12))=true) x (List.mem_of_getElem? HX.out);have h3:Hp.within 1 12 x=true:=h2;rw [hw] at h3
       cases h3
      subst he;have HI:=hZ (fun W=>hw ▸ dIn x 1 12 W);clear hw
      go_wp2_with (go_at_call 66;refine (HI.out _).mono ?_;rintro e w1 ⟨rfl,hb1⟩;obtain ⟨hc1,hf1,hs1⟩:=hb1.cells)
      go_returns;exact ⟨rfl,E.out.trans hb1⟩
     | true=>
      have hwi:1<=x/\x<=12:=by simpa [Hp.within] using hw
      have HI:=hZ (fun W=>hw ▸ dIn x 1 12 W);clear hw;have A3:=hZ (show ∀ k y,k < j+1->Hp.rd z k=some y->1<=y/\y<=12 from fun m y hm hy=>by
       by_cases e:m=j
       . subst e;rw [HX.out] at hy
         cases hy
         exact hwi
       . exact A.out m y (by omega) hy)
      go_wp2_with (go_at_call 66;refine (HI.out _).mono ?_;rintro e w1 ⟨rfl,hb1⟩;obtain ⟨hc1,hf1,hs1⟩:=hb1.cells)
      have E3:=hZ (E.out.trans hb1)
      go_roundg (n-(j+1))
      case measure=>omega
      case rel=>exact ⟨j+1,by omega,Nat.le_refl _,by go_num,A3,E3⟩
   have:j=n:=by omega
   subst this;have tk:decide ((j:Int) < (j:Int))=false:=dF;have hb:∀ s ∈ z,1<=s/\s<=12:=fun s hs=>by
    obtain ⟨k,hk,rfl⟩:=List.getElem_of_mem hs;exact A.out k _ (by have:=HL.out;omega) (List.getElem?_eq_getElem hk)
   have hall:z.all (fun n=>decide (1<=n) && decide (n<=12))=true:=List.all_eq_true.2 fun x hx=>by
    have:=hb x hx;simp only [Bool.and_eq_true,decide_eq_true_eq];exact this
   have he0:Hp.frameErr z o=(if z.foldl (· * ·) 1 > 2000 then 5 else if Hp.sortI o=Hp.upto z.length then 0 else 4:Int):=by
    unfold Hp.frameErr;rw [if_neg (show ¬ z.length > 6 by have:=HL.out;omega),if_neg (by rw [hall];simp)]
   rw [HE.out] at he0;have he:=he0.symm;clear he0;have PR:=hZ (fun E1=>HL.out ▸ dProduct (H.out.ext (w':=wr) E1) hb);have big:=Hp.prodM_big hb;generalize Hp.prodM z=pm at PR big;clear A hall
   by_cases h2:pm > 2000
   . rw [if_pos (big.1 h2)] at he;subst he;have t2:decide (pm > 2000)=true:=decide_eq_true h2;clear big
     go_wp2_with (go_at_call 119;refine (PR.out E.out).mono ?_;rintro e w1 ⟨rfl,hb1⟩;obtain ⟨hc1,hf1,hs1⟩:=hb1.cells)
     go_returns;exact ⟨rfl,E.out.trans hb1⟩
   rw [if_neg (fun h=>h2 (big.2 h))] at he;have t2:decide (pm > 2000)=false:=decide_eq_false h2;clear big;have OI:=Hp.ordOk_iff (o:=o) (n:=z.length);rw [HL.out] at OI he
   by_cases h3:Hp.sortI o=Hp.upto j
   . rw [if_pos h3] at he;subst he;have IO:=hZ (fun (W:World) (E1:Ext w W)=>dIsOrder (p:=p) (c:=c) (n:=j) (b:=true) (HO.out.ext E1) (by omega) ⟨fun _=>OI.2 h3,fun _=>rfl⟩);clear OI h3
     go_wp2_with (first
      | (go_at_call 119;refine (PR.out E.out).mono ?_;rintro e w1 ⟨rfl,hb1⟩;obtain ⟨hc1,hf1,hs1⟩:=hb1.cells)
      | (go_at_call 120;refine (IO.out _ (E.out.trans hb1)).mono ?_;rintro e w2 ⟨rfl,hb2⟩;obtain ⟨hc2,hf2,hs2⟩:=hb2.cells))
     go_returns;exact ⟨rfl,(E.out.trans hb1).trans hb2⟩
   rw [if_neg h3] at he;subst he;have IO:=hZ (fun (W:World) (E1:Ext w W)=>dIsOrder (p:=p) (c:=c) (n:=j) (b:=false) (HO.out.ext E1) (by omega) ⟨fun h=>absurd h (by decide),fun h=>absurd (OI.1 h) h3⟩);clear OI h3
   go_wp2_with (first
    | (go_at_call 119;refine (PR.out E.out).mono ?_;rintro e w1 ⟨rfl,hb1⟩;obtain ⟨hc1,hf1,hs1⟩:=hb1.cells)
    | (go_at_call 120;refine (IO.out _ (E.out.trans hb1)).mono ?_;rintro e w2 ⟨rfl,hb2⟩;obtain ⟨hc2,hf2,hs2⟩:=hb2.cells))
   go_returns;exact ⟨rfl,(E.out.trans hb1).trans hb2⟩
theorem dMany (h:SliceAt w p c l) (hb:∀ s ∈ l,1<=s/\s<=12) :
    Calls Tryz.prog 89 #[.slice p l.length c] w fun e w'=>e = .returned (.int .i64 (Hp.prodM l))/\Ext w w':=by
  have P:=hZ (dProduct h hb);clear h hb;go_enter Tryz.func89,Tryz.ntmps89
  go_wp2_with (go_at_call 119;refine (P.out).mono ?_;rintro e w1 ⟨rfl,hb1⟩;obtain ⟨hc1,hf1,hs1⟩:=hb1.cells)
  go_returns;exact ⟨rfl,exx⟩
def Hp.slimB (z o:List Int):Bool:=decide (z.length<=8) && (decide (o.length<=8) && (decide (Hp.frameErr z o ≠ 0) || decide (Hp.prodM z<=200)))
theorem dSlim {d:Nat} (hs:SliceAt w p c z) (ho:SliceAt w q d o) :
    Calls Tryz.prog 56 #[.slice p z.length c,.slice q o.length d] w fun e w'=>e = .returned (.bool (Hp.slimB z o))/\Ext w w':=by
  have CF:=hZ (dCheckFrame hs ho);have HM:=hZ (fun (W:World) (E:Ext w W)=>dMany (hs.ext E));clear hs ho
  by_cases h1:z.length<=8
  . have t1:decide ((z.length:Int) > 8)=false:=dF
    by_cases h2:o.length<=8
    . have t2:decide ((o.length:Int) > 8)=false:=dF;have e:Hp.slimB z o=(decide (Hp.frameErr z o ≠ 0) || decide (Hp.prodM z<=200)):=by simp [Hp.slimB,h1,h2]
      rw [e];clear e
      by_cases h3:Hp.frameErr z o=0
      . have e:(decide (Hp.frameErr z o ≠ 0) || decide (Hp.prodM z<=200))=decide (Hp.prodM z<=200):=by simp [h3]
        have hb:=(Hp.frameErr_ok h3).1.pos;have M:=hZ (fun (W:World) (E:Ext w W)=>HM.out W E hb);rw [e];have C:=hZ (h3 ▸ CF.out);clear e h3 hb CF HM;go_enter Tryz.func56,Tryz.ntmps56
        go_wp2_with (first
         | (go_at_call 57;refine (C.out).mono ?_;rintro e w1 ⟨rfl,hb1⟩;obtain ⟨hc1,hf1,hs1⟩:=hb1.cells)
         | (go_at_call 89;refine (M.out _ hb1).mono ?_;rintro e w2 ⟨rfl,hb2⟩;obtain ⟨hc2,hf2,hs2⟩:=hb2.cells))
        go_returns;exact ⟨rfl,hb1.trans hb2⟩
      have e:(decide (Hp.frameErr z o ≠ 0) || decide (Hp.prodM z<=200))=true:=by simp [h3]
      have t3:(Hp.frameErr z o != 0)=true:=by simpa using h3
      rw [e];clear e h3 HM;generalize Hp.frameErr z o=fe at CF t3;go_enter Tryz.func56,Tryz.ntmps56
      go_wp2_with (go_at_call 57;refine (CF.out).mono ?_;rintro e w1 ⟨rfl,hb1⟩;obtain ⟨hc1,hf1,hs1⟩:=hb1.cells)
      go_returns;exact ⟨rfl,exx⟩
    have t2:decide ((o.length:Int) > 8)=true:=dT;have e:Hp.slimB z o=false:=by simp [Hp.slimB,h2]
    rw [e];clear e CF HM;go_enter Tryz.func56,Tryz.ntmps56
    go_wp2_with fail
    go_returns;exact ⟨rfl,exx⟩
  have t1:decide ((z.length:Int) > 8)=true:=dT;have e:Hp.slimB z o=false:=by simp [Hp.slimB,h1]
  rw [e];clear e CF HM;go_enter Tryz.func56,Tryz.ntmps56
  go_wp2_with fail
  go_returns;exact ⟨rfl,exx⟩
theorem lFault {d:Nat} {n:Int} (hs:SliceAt w p c z) (ho:SliceAt w q d o) :
    Calls Tryz.prog 18 #[.slice p z.length c,.slice q o.length d,.int .i64 n] w fun e w'=>e = .returned (.int .i64 (Hp.newErr z o n))/\Ext w w':=by
  have CF:=hZ (dCheckFrame hs ho);clear hs ho
  by_cases h3:Hp.frameErr z o=0
  . have I:=hZ (fun W=>dIn n 32 40000 W);have C:=hZ (h3 ▸ CF.out);clear CF
    cases hw:Hp.within 32 40000 n with
    | true=>
     have e:Hp.newErr z o n=0:=by unfold Hp.newErr;rw [if_neg (by simp [h3]),hw];rfl
     rw [e];rw [hw] at I;clear e hw h3;go_enter Tryz.func18,Tryz.ntmps18
     go_wp2_with (first
      | (go_at_call 57;refine (C.out).mono ?_;rintro e w1 ⟨rfl,hb1⟩;obtain ⟨hc1,hf1,hs1⟩:=hb1.cells)
      | (go_at_call 66;refine (I.out _).mono ?_;rintro e w2 ⟨rfl,hb2⟩;obtain ⟨hc2,hf2,hs2⟩:=hb2.cells))
     go_returns;exact ⟨rfl,hb1.trans hb2⟩
    | false=>
     have e:Hp.newErr z o n=3:=by unfold Hp.newErr;rw [if_neg (by simp [h3]),hw];rfl
     rw [e];rw [hw] at I;clear e hw h3;go_enter Tryz.func18,Tryz.ntmps18
     go_wp2_with (first
      | (go_at_call 57;refine (C.out).mono ?_;rintro e w1 ⟨rfl,hb1⟩;obtain ⟨hc1,hf1,hs1⟩:=hb1.cells)
      | (go_at_call 66;refine (I.out _).mono ?_;rintro e w2 ⟨rfl,hb2⟩;obtain ⟨hc2,hf2,hs2⟩:=hb2.cells))
     go_returns;exact ⟨rfl,hb1.trans hb2⟩
  have e:Hp.newErr z o n=Hp.frameErr z o:=by unfold Hp.newErr;rw [if_pos h3]
  have t3:(Hp.frameErr z o != 0)=true:=by simpa using h3
  rw [e];clear e h3;generalize Hp.frameErr z o=fe at CF t3 ⊢;go_enter Tryz.func18,Tryz.ntmps18
  go_wp2_with (go_at_call 57;refine (CF.out).mono ?_;rintro e w1 ⟨rfl,hb1⟩;obtain ⟨hc1,hf1,hs1⟩:=hb1.cells)
  go_returns;exact ⟨rfl,exx⟩
structure ActsW (w:World) (p:Option Addr) (c:Nat) (l:List Hp.Act'):Prop where
 le:l.length<=c
 cap:c<=9223372036854775807
 cells:0 < l.length -> ∃ b o,p=some ⟨b,o,none⟩/\b < w.heap.size /\ ∀ (j:Nat) (x:Hp.Act'),l[j]? = some x -> ∃ q c f,ActOk { x with list:=[] } f/\w.cell? ⟨b,o+j * 5,none⟩=some (.int .u8 x.kind)/\w.cell? ⟨b,o+j * 5+1,none⟩=some (.int .i64 x.a)/\w.cell? ⟨b,o+j * 5+2,none⟩=some (.slice q x.list.length c)/\w.cell? ⟨b,o+j * 5+3,none⟩=some (.int .u8 f)/\w.cell? ⟨b,o+j * 5+4,none⟩=some (.int .i64 x.n)/\SliceAt w q c x.list
theorem ActsW.ext {l:List Hp.Act'} (h:ActsW w p c l) (k:Ext w w'):ActsW w' p c l:=by
 refine ⟨h.le,h.cap,fun h0=>?_⟩
 obtain ⟨b,o,rfl,hb,hc⟩:=h.cells h0
 refine ⟨b,o,rfl,Nat.lt_of_lt_of_le hb k.le,fun j x hx=>?_⟩
 obtain ⟨q,c',f,ok,a0,a1,a2,a3,a4,hs⟩:=hc j x hx
 exact ⟨q,c',f,ok,(k.cell hb _).trans a0,(k.cell hb _).trans a1,(k.cell hb _).trans a2,(k.cell hb _).trans a3,(k.cell hb _).trans a4,hs.ext k⟩
theorem ActsW.at_ {l:List Hp.Act'} (h:ActsW w p c l) (hl:∀ x ∈ l,x.list.length<=14):ActsAt w p c l:=by
 refine ⟨h.le,h.cap,fun h0=>?_⟩
 obtain ⟨b,o,rfl,hb,hc⟩:=h.cells h0
 refine ⟨b,o,rfl,hb,fun j x hx=>?_⟩
 obtain ⟨q,c',f,ok,hr⟩:=hc j x hx
 exact ⟨q,c',f,⟨ok.k0,ok.fault,ok.f2,ok.n1,ok.n2,ok.a1,ok.a2,by have:=hl x (List.mem_of_getElem? hx);omega⟩,hr⟩
def NilActs (w:World) (pa:Option Addr) (acts:List Hp.Act'):Prop:=∀ (b o j:Nat) (x:Hp.Act') (q:Option Addr) (c:Nat),pa=some ⟨b,o,none⟩->acts[j]? = some x->w.cell? ⟨b,o+j * 5+2,none⟩=some (.slice q x.list.length c)->q=none->c=0
theorem NilActs.ext {pa:Option Addr} {ca:Nat} (h:NilActs w pa acts) (ha:ActsW w pa ca acts) (e:Ext w w'):NilActs w' pa acts:=fun b o j x q c hp hx hc hq=>by
 obtain ⟨b',o',e',hb,_⟩:=ha.cells (by have:=(List.getElem?_eq_some_iff.1 hx).1;omega)
 rw [hp] at e'
 cases e'
 exact h b o j x q c hp hx ((e.cell hb _).symm.trans hc) hq
structure SAt (w:World) (sp:Option Addr) (sc:Nat) (op:Option Addr) (oc:Nat) (pa:Option Addr) (ca:Nat) (z o:List Int) (acts:List Hp.Act'):Prop where
 n3:NilActs w pa acts
 sizes:SliceAt w sp sc z
 order:SliceAt w op oc o
 acts:ActsW w pa ca acts
 n1:sp=none->sc=0
 n2:op=none->oc=0
theorem SAt.ext {pa:Option Addr} {ca:Nat} (h:SAt w sp sc op oc pa ca z o acts) (e:Ext w w'):SAt w' sp sc op oc pa ca z o acts:=
 { h with sizes:=h.sizes.ext e,order:=h.order.ext e,acts:=h.acts.ext e,n3:=h.n3.ext h.acts e }
def Hp.thinB (z o:List Int) (n:Int) (acts:List Hp.Act'):Bool:=
 Hp.slimB z o && (decide (acts.length<=60) && (acts.all (fun x=>decide (x.list.length<=14)) && (decide (Hp.frameErr z o ≠ 0) || (decide (n<=400) || decide (40000 < n)))))
set_option maxRecDepth 100000 in
set_option maxHeartbeats 4000000 in
theorem lThin {pa:Option Addr} {ca:Nat} {n:Int} (h:SAt w sp sc op oc pa ca z o acts) :
    Calls Tryz.prog 14 #[.agg #[.slice sp z.length sc,.slice op o.length oc,.int .i64 n,.slice pa acts.length ca]] w fun e w'=>e = .returned (.bool (Hp.thinB z o n acts))/\Ext w w':=by
  have E0:Ext w (w.alloc (.cells #[.slice sp z.length sc,.slice op o.length oc,.int .i64 n,.slice pa acts.length ca] 25)):=Ext.alloc (Ext.refl _) _;have SL:=hZ (dSlim (h.sizes.ext E0) (h.order.ext E0));have CF:=hZ (fun (W:World) (E:Ext w W)=>dCheckFrame (h.sizes.ext E) (h.order.ext E));have HA:=hZ h.acts;have le:=h.acts.le;have cap:=h.acts.cap;clear h;obtain ⟨b,hb⟩:∃ b,Hp.thinB z o n acts=b:=⟨_,rfl⟩
  rw [hb];have HB:=hZ hb;clear hb
  cases hs:Hp.slimB z o with
  | false=>
   have:b=false:=by rw [<- HB.out];simp [Hp.thinB,hs]
   subst this;rw [hs] at SL;clear hs CF E0;go_enter Tryz.func14,Tryz.ntmps14
   go_wp2_with (go_at_call 56;refine (SL.out).mono ?_;rintro e w1 ⟨rfl,hb1⟩;obtain ⟨hc1,hf1,hs1⟩:=hb1.cells)
   go_returns;exact ⟨rfl,exx⟩
  | true=>
   rw [hs] at SL;have HS:=hZ hs;clear hs
   by_cases h60:acts.length<=60
   . have t60:decide ((acts.length:Int) > 60)=false:=dF;have H60:=hZ h60;obtain ⟨m,hm⟩:∃ m,acts.length=m:=⟨_,rfl⟩
     have HM:=hZ hm;rw [hm] at SL E0 le t60 h60 ⊢;clear hm;go_enter Tryz.func14,Tryz.ntmps14
     go_wp2_with (go_at_call 56;refine (SL.out).mono ?_;rintro e w1 ⟨rfl,hb1⟩;obtain ⟨hc1,hf1,hs1⟩:=hb1.cells)
     have c0:w1.cell? ⟨w.heap.size,0,none⟩=some (.slice sp z.length sc):=by go_simp
     have c1:w1.cell? ⟨w.heap.size,1,none⟩=some (.slice op o.length oc):=by go_simp
     have c2:w1.cell? ⟨w.heap.size,2,none⟩=some (.int .i64 n):=by go_simp
     have c3:w1.cell? ⟨w.heap.size,3,none⟩=some (.slice pa m ca):=by go_simp
     have z1:w.heap.size < w1.heap.size:=cell_lt c0;have E1:=hZ (E0.trans hb1);generalize hG:w.heap.size=gb at c0 c1 c2 c3 z1 ⊢;clear hc1 hf1 hs1 hb1 SL E0
     go_loopg [3] m (fun g i wr=>∃ j:Nat,j<=m/\m-j<=g/\i = .int .i64 j/\Hid (∀ k x,k < j->acts[k]? = some x->x.list.length<=14)/\Hid (Ext w1 wr))
     case atStart=>exact ⟨0,Nat.zero_le _,by omega,rfl,hZ (fun k x hk=>by omega),hZ (Ext.refl _)⟩
     case round=>
      obtain ⟨j,hj,hg,rfl,A,E⟩:=hrel;have c3':=(E.out.cell z1 3).trans c3;have zr:=Nat.lt_of_lt_of_le z1 E.out.le
      by_cases hlt:j < m
      . obtain ⟨x,hx⟩:∃ x,acts[j]? = some x:=⟨acts[j]'(by rw [HM.out];exact hlt),List.getElem?_eq_getElem _⟩
        obtain ⟨bb,oo,rfl,hbb,hc⟩:=(HA.out.ext (E1.out.trans E.out)).cells (by rw [HM.out];omega);obtain ⟨q',c',f,ok,a0,a1,a2,a3,a4,hs⟩:=hc j x hx;have tk:decide ((j:Int) < (m:Int))=true:=dT;have HX:=hZ hx;have xc:=hs.le;clear hc hx ok hs a0 a1 a3 a4
        by_cases h14:x.list.length<=14
        . have t14:decide ((x.list.length:Int) > 14)=false:=dF;have A3:=hZ (show ∀ k y,k < j+1->acts[k]? = some y->y.list.length<=14 from fun k y hk hy=>by
           by_cases e:k=j
           . subst e;rw [HX.out] at hy
             cases hy
             exact h14
           . exact A.out k y (by omega) hy)
          go_wp2_with fail
          go_roundg (m-(j+1))
          case measure=>omega
          case rel=>exact ⟨j+1,by omega,Nat.le_refl _,by go_num,A3,E⟩
        have t14:decide ((x.list.length:Int) > 14)=true:=dT;have hbf:b=false:=by
         rw [<- HB.out];have:acts.all (fun x=>decide (x.list.length<=14))=false:=by
          apply Classical.byContradiction;intro hc;have h2:=List.all_eq_true.1 (by simpa using hc:acts.all (fun x=>decide (x.list.length<=14))=true) x (List.mem_of_getElem? HX.out);exact h14 (by simpa using h2)
         simp [Hp.thinB,this]
        subst hbf
        go_wp2_with fail
        go_returns;exact ⟨rfl,E1.out.trans E.out⟩
      have:j=m:=by omega
      subst this;have tk:decide ((j:Int) < (j:Int))=false:=dF;have hall:acts.all (fun x=>decide (x.list.length<=14))=true:=List.all_eq_true.2 fun x hx=>by
       obtain ⟨k,hk,rfl⟩:=List.getElem_of_mem hx;have:=A.out k _ (by have:=HM.out;omega) (List.getElem?_eq_getElem hk)
       simpa using this
      have hbe:(decide (Hp.frameErr z o ≠ 0) || (decide (n<=400) || decide (40000 < n)))=b:=by
       rw [<- HB.out];unfold Hp.thinB;rw [HS.out,hall];have:decide (acts.length<=60)=true:=decide_eq_true H60.out;rw [this];simp
      have c0':=(E.out.cell z1 0).trans c0;have c1':=(E.out.cell z1 1).trans c1;have c2':=(E.out.cell z1 2).trans c2;have C:=hZ (CF.out wr (E1.out.trans E.out));clear A hall CF c0 c1 c2
      by_cases h0:Hp.frameErr z o=0
      . rw [h0] at C hbe;have hbe:(decide (n<=400) || decide (40000 < n))=b:=by rw [<- hbe];simp
        clear h0
        by_cases h4:n<=400
        . have:b=true:=by rw [<- hbe];simp [h4]
          subst this;have t4:decide (n<=400)=true:=decide_eq_true h4;clear hbe
          go_wp2_with ((go_at_call 57;refine (C.out).mono ?_;rintro e w2 ⟨rfl,hb2⟩;obtain ⟨hc2,hf2,hs2⟩:=hb2.cells);have c2'':=(hb2.cell zr 2).trans c2')
          go_returns;exact ⟨rfl,(E1.out.trans E.out).trans hb2⟩
        have hbe:decide (40000 < n)=b:=by rw [<- hbe];simp [h4]
        have t4:decide (n<=400)=false:=decide_eq_false h4;subst hbe;clear h4
        go_wp2_with ((go_at_call 57;refine (C.out).mono ?_;rintro e w2 ⟨rfl,hb2⟩;obtain ⟨hc2,hf2,hs2⟩:=hb2.cells);have c2'':=(hb2.cell zr 2).trans c2')
        go_returns;exact ⟨rfl,(E1.out.trans E.out).trans hb2⟩
      have:b=true:=by rw [<- hbe];simp [h0]
      subst this;have t0:(Hp.frameErr z o != 0)=true:=by simpa using h0
      clear hbe h0;generalize Hp.frameErr z o=fe at C t0
      go_wp2_with ((go_at_call 57;refine (C.out).mono ?_;rintro e w2 ⟨rfl,hb2⟩;obtain ⟨hc2,hf2,hs2⟩:=hb2.cells);have c2'':=(hb2.cell zr 2).trans c2')
      go_returns;exact ⟨rfl,(E1.out.trans E.out).trans hb2⟩
   have t60:decide ((acts.length:Int) > 60)=true:=dT;have:b=false:=by rw [<- HB.out];simp [Hp.thinB,h60]
   subst this;clear CF E0;go_enter Tryz.func14,Tryz.ntmps14
   go_wp2_with (go_at_call 56;refine (SL.out).mono ?_;rintro e w1 ⟨rfl,hb1⟩;obtain ⟨hc1,hf1,hs1⟩:=hb1.cells)
   go_returns;exact ⟨rfl,exx⟩
def ActAmong (w:World) (p:Option Addr) (xs:List Value) (k:Nat) (x:Hp.Act'):Prop:=
 ∃ q c f,ActOk x f/\xs[k * 5]? = some (.int .u8 x.kind)/\xs[k * 5+1]? = some (.int .i64 x.a)/\xs[k * 5+2]? = some (.slice q x.list.length c)/\xs[k * 5+3]? = some (.int .u8 f)/\xs[k * 5+4]? = some (.int .i64 x.n)/\SliceAt w q c x.list /\
  ∀ b o,q=some ⟨b,o,none⟩->b < w.heap.size /\ ∀ o',p ≠ some ⟨b,o',none⟩
structure ActsRow (w0 w:World) (p:Option Addr) (c j:Nat) (l:List Hp.Act'):Prop where
 ext0:Ext w0 w
 own:∃ xs,w.ownsRow w0.heap.size 85 5 (.slice p j c) j xs /\ ∀ k x,k < j->l[k]? = some x->ActAmong w p xs k x
theorem ActAmong.ext {xs:List Value} {x:Hp.Act'} (h:ActAmong w p xs k x) (e:Ext w w'):ActAmong w' p xs k x:=by
 obtain ⟨q,c,f,h1,h2,h3,h4,h5,h6,h7,h8⟩:=h
 exact ⟨q,c,f,h1,h2,h3,h4,h5,h6,h7.ext e,fun b o e'=>⟨Nat.lt_of_lt_of_le (h8 b o e').1 e.le,(h8 b o e').2⟩⟩
theorem ActsRow.ext {l:List Hp.Act'} (h:ActsRow w0 w p c j l) (e:Ext w w'):ActsRow w0 w' p c j l:=by
 obtain ⟨xs,h1,h2⟩:=h.own
 refine ⟨h.ext0.trans e,xs,⟨h1.1, ?_⟩,fun k x hk hx=>(h2 k x hk hx).ext e⟩
 rcases h1.2 with e' | ⟨g,cap,cur,e',hb,hg,r⟩
 . exact .inl e'
 refine .inr ⟨g,cap,cur,e',hb, ?_,r⟩
 have:=(But.ofExt (l:=[]) e).block g (Array.getElem?_eq_some_iff.1 hg).1 (by simp)
 rw [this]
 exact hg
theorem ActsRow.at_ {l:List Hp.Act'} (h:ActsRow w0 w p c l.length l):ActsAt w p c l:=by
 obtain ⟨xs,h1,h2⟩:=h.own
 rcases h1.2 with ⟨e,hz⟩ | ⟨g,cap,cur,e,hb,hg,r1,r2,r3,r4⟩
 . injection e with e1 e2 e3
   refine ⟨by omega,by omega,fun h0=>by omega⟩
 injection e with e1 e2 e3
 subst e1 e3
 refine ⟨r1,by unfold maxLen at r2;omega,fun _=>⟨g,0,rfl,(Array.getElem?_eq_some_iff.1 hg).1,fun j x hx=>?_⟩⟩
 have hj:j < l.length:=(List.getElem?_eq_some_iff.1 hx).1
 obtain ⟨q,c',f,k1,k2,k3,k4,k5,k6,k7,_⟩:=h2 j x hj hx
 have cl:∀ i v,xs[i]? = some v->w.cell? ⟨g,0+i,none⟩=some v:=fun i v hv=>by
  have:=h1.cells (g:=g) rfl i _ hv;rw [Addr.add_lit] at this;exact this
 refine ⟨q,c',f,k1, ?_, ?_, ?_, ?_, ?_,k7⟩
 . exact cl _ _ k2
 . exact cl _ _ k3
 . exact cl _ _ k4
 . exact cl _ _ k5
 exact cl _ _ k6
theorem ActsRow.grow {cq:Nat} {l:List Hp.Act'} {x:Hp.Act'} {v':Value} {xs:List Value} (h0:Ext w0 w) (h1:w.ownsRow w0.heap.size 85 5 (.slice p j c) j xs) (h2:∀ k x,k < j->l[k]? = some x->ActAmong w p xs k x)
    (hx:l[j]? = some x) (hok:ActOk x f) (hs:SliceAt w q cq x.list) (hq:∀ b o,q=some ⟨b,o,none⟩->b < w.heap.size /\ ∀ o',p ≠ some ⟨b,o',none⟩)
    (hown:w'.ownsRow w0.heap.size 85 5 v' (j+1) (xs ++ [.int .u8 x.kind,.int .i64 x.a,.slice q x.list.length cq,.int .u8 f,.int .i64 x.n])) (hgr:w.grownBy w' (Value.slice p j c).ownBlock)
    (hor:∀ g cap,v' = .slice (some ⟨g,0,none⟩) (j+1) cap->p=some ⟨g,0,none⟩ \/ g=w.heap.size) :
    ∃ p' c',v' = .slice p' (j+1) c'/\ActsRow w0 w' p' c' (j+1) l:=by
  have hlen:xs.length=j * 5:=h1.1
  rcases hown.2 with ⟨_,hz⟩ | ⟨g,cap,cur,rfl,hb,hg,r⟩
  . omega
  refine ⟨some ⟨g,0,none⟩,cap,rfl, ?_,_,hown, ?_⟩
  . refine ext_grow h0 hgr fun r hr=>?_
    rcases h1.2 with ⟨e,_⟩ | ⟨g',cap',cur',e,hb',_⟩
    . rw [e] at hr;simp [Value.ownBlock] at hr
    rw [e] at hr;simp [Value.ownBlock] at hr;omega
  have keep:∀ (q:Option Addr) (c2:Nat) (l:List Int),(∀ b o,q=some ⟨b,o,none⟩->b < w.heap.size /\ ∀ o',p ≠ some ⟨b,o',none⟩)->SliceAt w q c2 l->SliceAt w' q c2 l /\ ∀ b o,q=some ⟨b,o,none⟩->b < w'.heap.size /\ ∀ o',(some ⟨g,0,none⟩:Option Addr) ≠ some ⟨b,o',none⟩:=fun q c2 l hf hs=>by
   have kb:But ((Value.slice p j c).ownBlock).toList w w':=⟨hgr.os,hgr.tape,hgr.output,hgr.size,fun i hi hn=>hgr.block i hi (fun e=>hn (by rw [<- e];simp))⟩
   refine ⟨hs.but kb fun b o e hm=>?_,fun b o e=>⟨Nat.lt_of_lt_of_le (hf b o e).1 hgr.size,fun o' e'=>?_⟩⟩
   . rcases h1.2 with ⟨e',_⟩ | ⟨g',cap',cur',e',hb',_⟩
     . injection e' with e1
       subst e1;simp [Value.ownBlock] at hm
     injection e' with e1
     subst e1;have:g'=b:=by simpa [Value.ownBlock,eq_comm] using hm
     subst this;exact (hf g' o e).2 0 rfl
   cases e'
   rcases hor _ _ rfl with hp | hg'
   . exact (hf g o e).2 0 hp
   have:=(hf g o e).1;omega
  intro k y hk hy
  by_cases e:k=j
  . subst e;rw [hx] at hy
    cases hy
    obtain ⟨n1,n2⟩:=keep q cq x.list hq hs;have ap:∀ i,(xs ++ [Value.int .u8 x.kind,.int .i64 x.a,.slice q x.list.length cq,.int .u8 f,.int .i64 x.n])[k * 5+i]? = [Value.int .u8 x.kind,.int .i64 x.a,.slice q x.list.length cq,.int .u8 f,.int .i64 x.n][i]? := fun i=>by
     rw [List.getElem?_append_right (by omega)]
     congr 1
     omega
    exact ⟨q,cq,f,hok,ap 0,ap 1,ap 2,ap 3,ap 4,n1,n2⟩
  obtain ⟨q',c',f',k1,k2,k3,k4,k5,k6,k7,k8⟩:=h2 k y (by omega) hy;obtain ⟨n1,n2⟩:=keep q' c' y.list k8 k7;have ap:∀ i v,xs[i]? = some v->(xs ++ [Value.int .u8 x.kind,.int .i64 x.a,.slice q x.list.length cq,.int .u8 f,.int .i64 x.n])[i]? = some v:=fun i v hv=>by
   rw [List.getElem?_append_left (List.getElem?_eq_some_iff.1 hv).1];exact hv
  exact ⟨q',c',f',k1,ap _ _ k2,ap _ _ k3,ap _ _ k4,ap _ _ k5,ap _ _ k6,n1,n2⟩
theorem SliceAt.two (w:World) (x y:Int) (hx : -9223372036854775808<=x/\x<=9223372036854775807) (hy : -9223372036854775808<=y/\y<=9223372036854775807) (t:TypeId):SliceAt (w.alloc (.cells #[.int .i64 x,.int .i64 y] t)) (some ⟨w.heap.size,0,none⟩) 2 [x,y]:=by
 refine ⟨by simp,by omega,fun z hz=>?_,fun _=>⟨w.heap.size,0,rfl,by simp,fun j z hj=>?_⟩⟩
 . rcases List.mem_cons.1 hz with rfl | hz
   . exact hx
   have:z=y:=by simpa using hz
   subst this;exact hy
 match j,hj with
 | 0,hj=>simp [Hp.rd] at hj;subst hj;simp [go_sem]
 | 1,hj=>simp [Hp.rd] at hj;subst hj;simp [go_sem]
 | j+2,hj=>simp [Hp.rd] at hj
theorem SliceAt.two_ (w:World) (g:Nat) (hg:g=w.heap.size) (x y:Int) (hx : -9223372036854775808<=x/\x<=9223372036854775807) (hy : -9223372036854775808<=y/\y<=9223372036854775807) (t:TypeId):SliceAt (w.alloc (.cells #[.int .i64 x,.int .i64 y] t)) (some ⟨g,0,none⟩) 2 [x,y]:=by
 subst hg
 exact SliceAt.two w x y hx hy t
theorem new_two {W:World} {S0:Hp.Hs} {g1 g2:Nat} (hn:32<=n) (hn2:n<=40000) (he:Hp.newErr [2,2] [0,1] n=0) (h0:Hp.new [2,2] [0,1] n=some S0) (h1:SliceAt W (some ⟨g1,0,none⟩) 2 [2,2]) (h2:SliceAt W (some ⟨g2,0,none⟩) 2 [0,1]) :
    Calls Tryz.prog 36 #[.slice (some ⟨g1,0,none⟩) 2 2,.slice (some ⟨g2,0,none⟩) 2 2,.int .i64 n] W (NewPost W S0):=
  New_any (sizes:=[2,2]) (order:=[0,1]) h1 h2 (.inl (by simp)) (.inl (by simp)) (by simp) (by simp) hn hn2 he h0 (by simp)
def PairPost (w:World) (S:Hp.Hs) (e:Ending) (w':World):Prop:=∃ d:Hd,e = .returned (.tuple #[.pointer (some ⟨d.hb,0,none⟩),.agg #[.int .i64 17,.int .i64 22,.int .i64 27],.bool true])/\HAt w' d S/\(∀ b ∈ d.own,w.heap.size<=b)/\Ext w w'/\(∀ b o,d.sp=some ⟨b,o,none⟩->w.heap.size<=b) /\ ∀ b o,d.op=some ⟨b,o,none⟩->w.heap.size<=b
set_option maxRecDepth 100000 in
set_option maxHeartbeats 8000000 in
theorem pair_any {S0 S1 S2 S3:Hp.Hs} (hn:32<=n) (hn2:n<=40000) (he:Hp.newErr [2,2] [0,1] n=0) (h0:Hp.new [2,2] [0,1] n=some S0) (h1:S0.end' (0:Nat) 5=some (17,0,S1)) (h2:S1.end' (0:Nat) 7=some (22,0,S2)) (h3:S2.make 1 [17,22]=some (27,0,S3)) :
    Calls Tryz.prog 55 #[.int .i64 n] w (PairPost w S3):=by
  have HE:=hZ he;have H0:=hZ h0;have H1:=hZ h1;have H2:=hZ h2;have H3:=hZ h3;clear he h0 h1 h2 h3;go_enter Tryz.func55,Tryz.ntmps55;have q1:SliceAt (((w.alloc (.cells #[.int .i64 0,.int .i64 0,.int .i64 0] 97)).alloc (.cells #[.int .i64 2,.int .i64 2] 3)).alloc (.cells #[.int .i64 0,.int .i64 1] 3)) (some ⟨w.heap.size+1,0,none⟩) 2 [2,2]:=(SliceAt.two_ _ _ (by simp) 2 2 (by omega) (by omega) _).ext (Ext.alloc (Ext.refl _) _);have q2:SliceAt (((w.alloc (.cells #[.int .i64 0,.int .i64 0,.int .i64 0] 97)).alloc (.cells #[.int .i64 2,.int .i64 2] 3)).alloc (.cells #[.int .i64 0,.int .i64 1] 3)) (some ⟨w.heap.size+1+1,0,none⟩) 2 [0,1]:=SliceAt.two_ _ _ (by simp) 0 1 (by omega) (by omega) _;go_upto_region 2 with (go_at_call 36;refine (new_two hn hn2 HE.out H0.out q1 q2).mono ?_;rintro e w1 ⟨d,rfl,hA1,o1,E1,s1,s2⟩)
  have EW:Ext w w1:=exx;have N1:=hZ (Now.refl hA1);have O1:∀ b ∈ d.own,w.heap.size+3<=b:=fun b hb=>by have:=o1 b hb;simp at this;omega
  have OH:=hZ O1;have S1H:=hZ (fun b o (e:d.sp=some ⟨b,o,none⟩)=>(by have:=s1 b o e;simp at this;omega:w.heap.size+3<=b));have S2H:=hZ (fun b o (e:d.op=some ⟨b,o,none⟩)=>(by have:=s2 b o e;simp at this;omega:w.heap.size+3<=b));clear s1 s2;have z1:w.heap.size+3<=w1.heap.size:=by have:=E1.le;simp at this;omega
  have bx:∀ k,k < 3->w1.cell? ⟨w.heap.size,k,none⟩=some (.int .i64 0):=fun k hk=>by
   rw [E1.cell (by simp;omega) k];have:k=0 \/ k=1 \/ k=2:=by omega
   rcases this with rfl | rfl | rfl <;> simp [go_sem]
  have BX:=hZ bx;have fx:∀ k,w1.frozen? ⟨w.heap.size,k,none⟩=false:=fun k=>by
   rw [E1.frozen (by simp;omega) k];simp [go_sem]
  have FX:=hZ fx;clear hA1 o1 O1 E1 bx fx q1 q2;go_upto_region 3 with (go_at_call 43;refine (End_any N1.out.toHAt (f:=0) (by omega) (by omega) (by omega) H1.out).mono ?_;rintro e w2 ⟨rfl,A2⟩)
  have N2:=hZ (Now.mk A2.toHAt (N1.out.but.trans A2.but));clear A2 N1;go_upto_region 4 with (go_at_call 43;refine (End_any N2.out.toHAt (f:=0) (by omega) (by omega) (by omega) H2.out).mono ?_;rintro e w3 ⟨rfl,A3⟩)
  have N3:=hZ (Now.mk A3.toHAt (N2.out.but.trans A3.but));clear A3 N2;have q3:SliceAt (w3.alloc (.cells #[.int .i64 17,.int .i64 22] 3)) (some ⟨w3.heap.size,0,none⟩) 2 [17,22]:=SliceAt.two w3 17 22 (by omega) (by omega) _;have E3:Ext w3 (w3.alloc (.cells #[.int .i64 17,.int .i64 22] 3)):=Ext.alloc (Ext.refl _) _
  have M3:Calls Tryz.prog 44 #[.pointer (some ⟨d.hb,0,none⟩),.int .i64 1,.slice (some ⟨w3.heap.size,0,none⟩) 2 2] (w3.alloc (.cells #[.int .i64 17,.int .i64 22] 3)) (Added d (w3.alloc (.cells #[.int .i64 17,.int .i64 22] 3)) (27,0,S3)):=
   Make_any (l:=[17,22]) (N3.out.ext E3).toHAt q3 (fun b o e hm=>by
    cases e
    have:=N3.out.own_lt _ hm;omega) (by omega) (by omega) H3.out
  clear q3;go_upto_region 5 with (go_at_call 44;refine M3.mono ?_;rintro e w4 ⟨rfl,A4⟩)
  have N4:=hZ (Now.mk A4.toHAt ((N3.out.but.ext E3).trans A4.but));have hx:w.heap.size ∉ d.own:=fun hm=>by have:=OH.out _ hm;omega
  have c0:=(N4.out.but.cell (by omega) hx 0).trans (BX.out 0 (by omega));have c1:=(N4.out.but.cell (by omega) hx 1).trans (BX.out 1 (by omega));have c2:=(N4.out.but.cell (by omega) hx 2).trans (BX.out 2 (by omega));have f0:=(N4.out.but.frozen (by omega) hx 0).trans (FX.out 0);have f1:=(N4.out.but.frozen (by omega) hx 1).trans (FX.out 1);have f2:=(N4.out.but.frozen (by omega) hx 2).trans (FX.out 2);clear A4 M3 N3 E3
  go_wp2_with fail
  have kb:But [w.heap.size] w4 (((w4.setCell ⟨w.heap.size,0,none⟩ (.int .i64 17)).setCell ⟨w.heap.size,1,none⟩ (.int .i64 22)).setCell ⟨w.heap.size,2,none⟩ (.int .i64 27)):=
   (((But.refl _ _).setCell (.inl (by simp)) _).setCell (.inl (by simp)) _).setCell (.inl (by simp)) _
  have hx2:=OH.out _ d.hb_own;have hx3:=OH.out _ d.gw_own;have hx4:=OH.out _ d.gm_own
  have A5:HAt (((w4.setCell ⟨w.heap.size,0,none⟩ (.int .i64 17)).setCell ⟨w.heap.size,1,none⟩ (.int .i64 22)).setCell ⟨w.heap.size,2,none⟩ (.int .i64 27)) d S3:=
   N4.out.toHAt.but kb (by simp;omega) (by simp;omega) (by simp;omega) (fun b o e=>by have:=S1H.out b o e;simp;omega) (fun b o e=>by have:=S2H.out b o e;simp;omega)
  have X4:Ext w w4:=But.toExt EW N4.out.but (fun b hb=>by have:=OH.out b hb;omega);refine bodyPost_ret (v:=.tuple #[.pointer (some ⟨d.hb,0,none⟩),.agg #[.int .i64 17,.int .i64 22,.int .i64 27],.bool true]) (by simp [results,Tryz.results55,go_sem, *]) rfl ⟨d,rfl,A5,(fun b hb=>by have:=OH.out b hb;omega),exx,(fun b o e=>by have:=S1H.out b o e;omega),(fun b o e=>by have:=S2H.out b o e;omega)⟩
namespace Aw
def none':Hp.Hs:=⟨[],[],[],[]⟩
def S0:Hp.Hs:=(Hp.new [2,2] [0,1] 39).getD none'
def S1:Hp.Hs:=((S0.end' (0:Nat) 5).getD (0,0,none')).2.2
def S2:Hp.Hs:=((S1.end' (0:Nat) 7).getD (0,0,none')).2.2
def S3:Hp.Hs:=((S2.make 1 [17,22]).getD (0,0,none')).2.2
def S4:Hp.Hs:=((S3.make 0 [17,27]).getD (0,0,none')).2.2
def S5:Hp.Hs:=((S4.hold 27).getD (0,none')).2
def S6:Hp.Hs:=(S5.collect.getD (0,none')).2
def L6:List (Nat × Nat):=(S6.piecesFrom S6.fuel 17).getD []
theorem e0:Hp.new [2,2] [0,1] 39=some S0:=by kernel_rfl
theorem ee:Hp.newErr [2,2] [0,1] (39:Nat)=0:=by kernel_rfl
theorem e1:S0.end' (0:Nat) 5=some (17,0,S1):=by kernel_rfl
theorem e2:S1.end' (0:Nat) 7=some (22,0,S2):=by kernel_rfl
theorem e3:S2.make 1 [17,22]=some (27,0,S3):=by kernel_rfl
theorem e4:S3.make 0 [17,27]=some (33,0,S4):=by kernel_rfl
theorem e5:S4.hold 27=some (0,S5):=by kernel_rfl
theorem e6:S5.collect=some (1,S6):=by kernel_rfl
theorem el:S6.live=some [17,22,27]:=by kernel_rfl
theorem ep:S6.piecesFrom S6.fuel 17=some L6:=by kernel_rfl
theorem eg:S6.gapSums L6=(6,6):=by kernel_rfl
theorem et:S6.taken.length=3:=by kernel_rfl
theorem ew:S4.words.length=39:=by kernel_rfl
theorem es:decide (S4.words.drop 16=lastWords)=true:=by kernel_rfl
theorem r1:Hp.rd S4.words 1=some 17:=by kernel_rfl
theorem r3:Hp.rd S4.words 3=some 22:=by kernel_rfl
theorem r11:Hp.rd S4.words 11=some 27:=by kernel_rfl
theorem r14:Hp.rd S4.words 14=some 33:=by kernel_rfl
theorem h27:S6.has (27:Nat)=true:=by kernel_rfl
theorem t27:S6.tag 27=some 2:=by kernel_rfl
theorem k27:S6.kids 27=some [17,22]:=by kernel_rfl
theorem h22:S6.has (22:Nat)=true:=by kernel_rfl
theorem t22:S6.tag 22=some 20:=by kernel_rfl
theorem n22:Hp.rd S6.words (22+4)=some 7:=by kernel_rfl
end Aw
open Go.RowKit Go.Maps
def dgV (L:DgL) (zs os es ns:Nat) (x:Int):Value:=.agg (L.cells zs os es ns x)
def Rd.own (r:Rd):List Nat:=[r.rb,r.gb]
structure RW (w:World) (r:Rd) (S:Hp.Hs):Prop where
 c0:w.cell? ⟨r.rb,0,none⟩=some (.slice r.sp S.sizes.length r.sc)
 c1:w.cell? ⟨r.rb,1,none⟩=some (.slice r.op S.order.length r.oc)
 c2:w.cell? ⟨r.rb,2,none⟩=some (.slice (some ⟨r.gb,0,none⟩) S.words.length r.wc)
 f2:w.frozen? ⟨r.rb,2,none⟩=false
 sizes:SliceAt w r.sp r.sc S.sizes
 order:SliceAt w r.op r.oc S.order
 words:WordsAt w r.gb S.words
 le:S.words.length<=r.wc
 cap:r.wc<=9223372036854775807
 go:r.go=0
 apart:r.rb ≠ r.gb
 far1:0 < S.sizes.length -> ∀ b o,r.sp=some ⟨b,o,none⟩->b ∉ r.own
 far2:0 < S.order.length -> ∀ b o,r.op=some ⟨b,o,none⟩->b ∉ r.own
theorem WordsAt.slice (h:WordsAt w g W) (h1:W.length<=c) (h2:c<=9223372036854775807):SliceAt w (some ⟨g,0,none⟩) c W:=
 ⟨h1,h2,h.wf,fun _=>⟨g,0,rfl,h.lt,fun j x hx=>by rw [Nat.zero_add];exact h.get hx⟩⟩
theorem SliceAt.but1 (h:SliceAt w p c l) {bs:List Nat} (k:But bs w w') (hf:0 < l.length -> ∀ b o,p=some ⟨b,o,none⟩->b ∉ bs):SliceAt w' p c l:=by
 refine ⟨h.le,h.cap,h.wf,fun h0=>?_⟩
 obtain ⟨b,o,rfl,hb,hc⟩:=h.cells h0
 exact ⟨b,o,rfl,Nat.lt_of_lt_of_le hb k.size,fun j x hx=>(k.cell hb (hf h0 b o rfl) _).trans (hc j x hx)⟩
namespace RW
variable {w w':World} {r:Rd} {S:Hp.Hs}
theorem at_ (h:RW w r S):RAt w r S:=⟨h.c0,h.c1,by rw [h.go];exact h.c2,h.sizes,h.order,by rw [h.go];exact h.words.slice h.le h.cap⟩
theorem lt (h:RW w r S):r.rb < w.heap.size:=cell_lt h.c0
theorem ext (h:RW w r S) (k:Ext w w'):RW w' r S:=
 { h with
   c0:=(k.cell h.lt 0).trans h.c0
   c1:=(k.cell h.lt 1).trans h.c1
   c2:=(k.cell h.lt 2).trans h.c2
   f2:=(k.frozen h.lt 2).trans h.f2
   sizes:=h.sizes.ext k
   order:=h.order.ext k
   words:=h.words.ext k }
theorem turn (h:RW w r S) (k:But [r.gb] w w') (hw:WordsAt w' r.gb W) (hl:W.length=S.words.length):RW w' r { S with words:=W }:=
 have n1:r.rb ∉ [r.gb]:=by simp [h.apart]
 { h with
   c0:=(k.cell h.lt n1 0).trans h.c0
   c1:=(k.cell h.lt n1 1).trans h.c1
   c2:=by rw [k.cell h.lt n1 2,h.c2,hl]
   f2:=(k.frozen h.lt n1 2).trans h.f2
   sizes:=h.sizes.but1 k (fun h0 b o e hm=>h.far1 h0 b o e (by simp [Rd.own] at hm ⊢;simp [hm]))
   order:=h.order.but1 k (fun h0 b o e hm=>h.far2 h0 b o e (by simp [Rd.own] at hm ⊢;simp [hm]))
   words:=hw
   le:=by rw [hl];exact h.le }
theorem but (h:RW w r S) {l:List Nat} (k:But l w w') (h0:r.rb ∉ l) (h1:r.gb ∉ l) (h3:∀ b o,r.sp=some ⟨b,o,none⟩->b ∉ l) (h4:∀ b o,r.op=some ⟨b,o,none⟩->b ∉ l):RW w' r S:=
 { h with
   c0:=(k.cell h.lt h0 0).trans h.c0
   c1:=(k.cell h.lt h0 1).trans h.c1
   c2:=(k.cell h.lt h0 2).trans h.c2
   f2:=(k.frozen h.lt h0 2).trans h.f2
   sizes:=h.sizes.but k h3
   order:=h.order.but k h4
   words:=h.words.but k h1 }
theorem get (h:RW w r S) (hj:j < S.words.length):w.cell? ⟨r.gb,j,none⟩=some (.int .i64 (Hp.ow S.words j)):=h.words.get (Hp.rd_ow hj)
theorem bound (h:RW w r S) (hj:j < S.words.length) : -9223372036854775808<=Hp.ow S.words j/\Hp.ow S.words j<=9223372036854775807:=h.words.bound (Hp.rd_ow hj)
theorem set (h:RW w r S) {v:Int} (hj:j < S.words.length) (h1 : -9223372036854775808<=v) (h2:v<=9223372036854775807):RW (w.setCell ⟨r.gb,j,none⟩ (.int .i64 v)) r { S with words:=S.words.set j v }:=
 h.turn ((But.refl _ _).setCell (by simp) _) (h.words.set (W':=S.words.set j v) (by simp [Hp.wr,hj]) h1 h2) (by simp)
end RW
structure RNow (w0 w:World) (r:Rd) (S:Hp.Hs):Prop extends RW w r S where
 but:But r.own w0 w
theorem Rd.gb_own (r:Rd):r.gb ∈ r.own:=by simp [Rd.own]
namespace RNow
variable {w0 w w':World} {r:Rd} {S:Hp.Hs}
theorem refl (h:RW w r S):RNow w w r S:=⟨h,But.refl _ _⟩
theorem ext (h:RNow w0 w r S) (k:Ext w w'):RNow w0 w' r S:=⟨h.toRW.ext k,h.but.ext k⟩
theorem trans {a b c:World} (h:RNow a b r S) (k:RNow b c r S'):RNow a c r S':=⟨k.toRW,h.but.trans k.but⟩
theorem set (h:RNow w0 w r S) {v:Int} (hj:j < S.words.length) (h1 : -9223372036854775808<=v) (h2:v<=9223372036854775807):RNow w0 (w.setCell ⟨r.gb,j,none⟩ (.int .i64 v)) r { S with words:=S.words.set j v }:=
 ⟨h.toRW.set hj h1 h2,h.but.setCell (.inl r.gb_own) _⟩
theorem cut {P:Program} {c:Code} {Q:Exit->Act->World->Prop} {a:Act} (h:RNow w0 w r S) (k:∀ w',RNow w0 w' r S->c.wp P Q a w'):c.wp P Q a w:=k w h
end RNow
def RTurned (r:Rd) (w:World) (v:Value) (S:Hp.Hs) (e:Ending) (w':World):Prop:=e = .returned v/\RNow w w' r S
theorem RNow.done {v:Value} (h:RNow w0 w r S):RTurned r w0 v S (.returned v) w:=⟨rfl,h⟩
open Go.RowKit Go.Maps
theorem RNow.len {V:List Int} (h:RNow w0 w r { S with words:=V }) (e:V.length=n):w.cell? ⟨r.rb,2,none⟩=some (.slice (some ⟨r.gb,0,none⟩) n r.wc):=by
 rw [<- e]
 exact h.c2
theorem RW.own_lt (h:RW w r S):∀ b ∈ r.own,b < w.heap.size:=by
 intro b hb
 simp [Rd.own] at hb
 rcases hb with rfl | rfl
 . exact h.lt
 exact h.words.lt
end Go.Proofs.YtdokmmhjmclmnaaGreat
