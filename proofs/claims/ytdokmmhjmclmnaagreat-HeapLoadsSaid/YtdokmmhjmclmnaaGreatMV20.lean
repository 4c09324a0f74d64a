/-
  Part 20 of a proof: RH9.
-/
import Derived.Test.YtdokmmhjmclmnaaGreatMV02
import Derived.Test.YtdokmmhjmclmnaaGreatMV18
set_option linter.unusedSimpArgs false
set_option linter.unusedVariables false
set_option linter.unusedSectionVars false
set_option linter.unnecessarySimpa false
namespace Go.Proofs.YtdokmmhjmclmnaaGreat
variable {W' w w' w0 wb:World} {B a b base c cap ce cn f g gb i j k lb m n oc s sc:Nat} {choice t x:Int} {G W fs l o xs z:List Int} {L:List Hp.Tl} {r:Rd} {S S':Hp.Hs} {A N T:List Nat} {M:List (Nat × Int)} {op p pe pn q sp:Option Addr} {d:Hd} {acts:List Hp.Act'}
open Go.RowKit Go.Maps
def castL (l:List Nat):List Int:=l.map fun a:Nat=>(a:Int)
theorem castL_len (l:List Nat):(castL l).length=l.length:=by simp [castL]
theorem castL_has (l:List Nat) (a:Nat):(castL l).contains (a:Int)=l.contains a:=by
 rw [Bool.eq_iff_iff]
 simp only [castL,List.contains_iff_mem,List.mem_map]
 constructor
 . rintro ⟨b,hb,e⟩;rw [show a=b by omega];exact hb
 intro h
 exact ⟨a,h,rfl⟩
set_option maxRecDepth 100000 in
set_option maxHeartbeats 8000000 in
theorem rCheckChains {ch:Nat->List Nat} (h:RAt w r S) (hw:Hp.Wf S B L ch) :
    Calls Tryz.prog 71 #[.pointer (some ⟨r.rb,0,none⟩)] w fun e w'=>e = .returned (.bool true)/\Ext w w':=by
  have CELLS:=hZ (rCells_ h hw);have FLD:=hZ (fun b (hb:b ∈ S.taken) W (hW:Ext w W)=>rField (h.ext hW) hw hb);have FAT:=hZ (fun b (hb:b ∈ S.taken) W (hW:Ext w W)=>fieldAt (h.ext hW) hw hb);have HW:=hZ hw;have lo:=hw.lo;have hi:=hw.hi;have few:=hw.few;have H:=hZ h;have hle:=h.words.le;have hcap:=h.words.cap;have hlt:=h.lt;have c2:=h.c2;have TL:(Hp.allCh ch 16).length=S.taken.length:=Hp.allCh_all hw.chains (Hp.up_nodup hw.up);have TLH:=hZ TL;obtain ⟨gbb,o',hp',hbb,_⟩:=h.words.cells (by omega)
  cases hp'
  obtain ⟨n,hn⟩:∃ n,S.words.length=n:=⟨_,rfl⟩
  have EN:=hZ hn;rw [hn] at lo hi few hle c2;obtain ⟨m,hm⟩:∃ m,S.taken.length=m:=⟨_,rfl⟩
  have EM:=hZ hm;rw [hm] at few;clear h hw hn hm TL;go_enter Tryz.func71,Tryz.ntmps71
  go_wp2_with (go_at_call 82;refine CELLS.out.mono ?_;rintro e w1 ⟨p,c,rfl,hR,hE⟩;rw [cellsI_len,EM.out];have RR:=hZ hR.at_;have E1:=hZ hE)
  clear hR hE CELLS;have lle:=RR.out.le;have lcap:=RR.out.cap;rw [cellsI_len,EM.out] at lle
  go_loopg [4,5] 16 (fun g s i wr=>∃ (j:Nat) (p4:Option Addr) (c4:Nat),j<=16/\16-j<=g/\i = .int .i64 j/\s = .slice p4 (castL (Hp.allCh ch j)).length c4/\Hid (Row wr w1.heap.size p4 c4 (castL (Hp.allCh ch j)))/\Hid (Ext w1 wr))
  case atStart=>exact ⟨0,none,0,Nat.zero_le _,by omega,rfl,rfl,hZ (Row.nil _ _),hZ (Ext.refl _)⟩
  case round=>
   obtain ⟨j,p4,c4,hj,hg,rfl,rfl,R4,E⟩:=hrel;have Ew:=E1.out.trans E.out;have c2w:=(Ew.cell hlt 2).trans c2;have zb:r.rb < wr.heap.size:=Nat.lt_of_lt_of_le hlt Ew.le;have zg:r.gb < wr.heap.size:=Nat.lt_of_lt_of_le hbb Ew.le
   by_cases hlt2:j < 16
   . have gj:=(H.out.ext Ew).get (j:=j) (by rw [EN.out];omega);have tk:decide ((j:Int) < 16)=true:=dT;have PV:=hZ (HW.out.chains.path j hlt2).v;have jn:(j:Int) < (n:Int):=by omega
     obtain ⟨x0,hx0⟩:∃ x0,Hp.ow S.words j=x0:=⟨_,rfl⟩
     rw [hx0] at gj;have PV0:Hid (Hp.PathV (Hp.ow S.words) x0 (ch j)):=hZ (by rw [<- hx0];exact PV.out);clear PV hx0 Ew;go_upto_region 7 with (fail)
     go_loopg [4,6] (ch j).length (fun g s x wx=>∃ (P Q:List Nat) (y:Int) (p5:Option Addr) (c5:Nat),Q.length<=g/\x = .int .i64 y/\s = .slice p5 (castL (Hp.allCh ch j ++ P)).length c5/\Hid (ch j=P ++ Q)/\Hid (Hp.PathV (Hp.ow S.words) y Q)/\Hid (Row wx w1.heap.size p5 c5 (castL (Hp.allCh ch j ++ P)))/\Hid (Ext w1 wx))
     case atStart=>exact ⟨[],ch j,x0,p4,c4,Nat.le_refl _,rfl,by rw [List.append_nil],hZ rfl,PV0,hZ (by rw [List.append_nil];exact R4.out),E⟩
     case round=>
      obtain ⟨P,Q,y,p5,c5,hg2,rfl,rfl,EC,PY,R5,E5⟩:=hrel;clear R4 E zb zg c2w gj PV0;have Ew:=E1.out.trans E5.out;have c2w:=(Ew.cell hlt 2).trans c2;have zb:r.rb < wr.heap.size:=Nat.lt_of_lt_of_le hlt Ew.le;have zg:r.gb < wr.heap.size:=Nat.lt_of_lt_of_le hbb Ew.le
      cases Q with
      | nil=>
       have hy:y=0:=PY.out;subst hy;have EP:Hp.allCh ch j ++ P=Hp.allCh ch (j+1):=by
        rw [show Hp.allCh ch (j+1)=Hp.allCh ch j ++ ch j from rfl,EC.out,List.append_nil]
       have t0:((0:Int) != 0)=false:=by decide
       go_wp2_with fail
       go_roundg (16-(j+1))
       case measure=>omega
       case rel=>exact ⟨j+1,p5,c5,by omega,Nat.le_refl _,by go_num,by rw [EP],hZ (by rw [<- EP];exact R5.out),E5⟩
      | cons a Q=>
       obtain ⟨hy,ha0,hq⟩:=PY.out;subst hy;have PQ:=hZ hq;have hac:a ∈ ch j:=by rw [EC.out];simp
       obtain ⟨hat,hcz⟩:=(HW.out.chains.mem j hlt2 a).1 hac;have pa:=HW.out.part hat;rw [EN.out] at pa;have hchk:=HW.out.chain_ hat;rw [hcz] at hchk;have t0:((a:Int) != 0)=true:=by simp;omega
       have HAS1:Hid (∀ W,Ext w1 W->Calls Tryz.prog 85 #[.slice p m c,.int .i64 (a:Int)] W fun e w'=>e = .returned (.bool true)/\Ext W w'):=hZ (fun W hW=>by
        have:=rHas_is (b:=true) (x:=(a:Int)) (by simpa using cellsI_mem.2 ⟨a,hat,rfl⟩) (RR.out.ext hW);rw [cellsI_len,EM.out] at this;exact this)
       have hnm:(castL (Hp.allCh ch j ++ P)).contains (a:Int)=false:=by
        rw [castL_has]
        cases hc:(Hp.allCh ch j ++ P).contains a with
        | false=>rfl
        | true=>
         exfalso;have hm:a ∈ Hp.allCh ch j ++ P:=by simpa using hc
         have hnd:=Hp.allCh_nodup HW.out.chains (k:=j+1) (by omega);rw [show Hp.allCh ch (j+1)=Hp.allCh ch j ++ ch j from rfl,EC.out,<- List.append_assoc] at hnd;exact (List.nodup_append.1 hnd).2.2 a hm a (by simp) rfl
       have HAS2:Hid (∀ W,Ext wr W->Calls Tryz.prog 85 #[.slice p5 (castL (Hp.allCh ch j ++ P)).length c5,.int .i64 (a:Int)] W fun e w'=>e = .returned (.bool false)/\Ext W w'):=hZ (fun W hW=>rHas_is hnm (R5.out.at_.ext hW));have gx:=(H.out.ext Ew).get (j:=a) (by rw [EN.out];omega);have gz:=(H.out.ext Ew).get (j:=a+3) (by rw [EN.out];omega);obtain ⟨fl,hfl⟩:∃ fl,(Hp.fz (Hp.ow S.words) S.sizes a).length=fl:=⟨_,rfl⟩
       have FLB:Hid (∀ W,Ext w W->Calls Tryz.prog 88 #[.pointer (some ⟨r.rb,0,none⟩),.int .i64 a] W fun e w'=>e = .returned (.slice (some ⟨r.gb,r.go+(a+4),none⟩) fl (r.wc-(a+4)))/\Ext W w'):=hZ (fun W hW=>by rw [<- hfl];exact FLD.out a hat W hW);obtain ⟨t,ht⟩:∃ t,Hp.ow S.words a=t:=⟨_,rfl⟩
       rw [ht] at gx;have CHN:Hid (∀ W,Ext w W->Calls Tryz.prog 137 #[.int .i64 t,.slice (some ⟨r.gb,r.go+(a+4),none⟩) fl (r.wc-(a+4))] W fun e w'=>e = .returned (.int .i64 (j:Int))/\Ext W w'):=hZ (fun W hW=>by
        have:=rChain (FAT.out a hat W hW) hchk;rw [hfl,ht] at this;exact this)
       have EWH:=hZ Ew;have LEN:(castL (Hp.allCh ch j ++ P)).length<=m:=by
        rw [castL_len,<- EM.out,<- TLH.out]
        have h1:=Hp.nodup_len (l:=Hp.allCh ch j ++ P) (m:=Hp.allCh ch 16) (by
         have hnd:=Hp.allCh_nodup HW.out.chains (k:=j+1) (by omega);rw [show Hp.allCh ch (j+1)=Hp.allCh ch j ++ ch j from rfl,EC.out,<- List.append_assoc] at hnd;exact (List.nodup_append.1 hnd).1) fun b hb=>by
          rcases List.mem_append.1 hb with hb | hb
          . obtain ⟨c',h1,h2⟩:=Hp.mem_allCh.1 hb;exact Hp.mem_allCh.2 ⟨c',by omega,h2⟩
          exact Hp.mem_allCh.2 ⟨j,hlt2,by rw [EC.out];simp [hb]⟩
        exact h1
       have u1:((j:Int) != (j:Int))=false:=by simp
       have EC2:Hid (ch j=(P ++ [a]) ++ Q):=hZ (by rw [EC.out];simp);have an:(a:Int) < (n:Int):=by omega
       have s1:IntKind.i64.wrap ((a:Int)+3)=(a:Int)+3:=IntWalk.i64_in _ (by omega);have EP2:castL (Hp.allCh ch j ++ (P ++ [a]))=castL (Hp.allCh ch j ++ P) ++ [(a:Int)]:=by simp [castL]
       have EPH:=hZ EP2;have a17:17<=a:=by omega
       have a5:a+5<=n:=by omega
       clear hq hac hat hcz pa hchk hnm ht hfl Ew EP2 ha0;have GZ:=hZ (fun W (hW:Ext w W)=>(H.out.ext hW).get (j:=a+3) (by rw [EN.out];omega));clear gz;generalize Hp.ow S.words (a+3)=y3 at *;have hcap5:=R5.out.at_.cap;have hle5:=R5.out.at_.le;go_upto_region 9 with (fail)
       have pr46a:=fun u_ (h_:Ext wr u_)=>(h_.cell zb 2).trans c2w
       have pr46b:=fun u_ (h_:Ext wr u_)=>(h_.cell zg (r.go+a)).trans gx
       refine wp_region_seq (S:=fun W=>Ext wr W) (R:=Ext) (by kernel_rfl) Ext.refl ?_ ?_
       . exact exx
       refine' tkL 0 ?_;refine' tkL 1 ?_;refine' tkR 2 (v:=.bool true) rfl (Or.inr ⟨by rfl,85,_, ?hx2_865, ?hy2_865⟩) ?rest2_865
       case hx2_865=>(intro w hSw;go_simp;try with_reducible rfl)
       case hy2_865=>exact fun w hE=>(HAS1.out _ (E5.out.trans hE)).mono (fun _ _ h=>⟨h.1,h.2,Ext.trans hE h.2⟩)
       refine layy ?_;refine' tkL 3 ?_;refine' tkL 4 ?_;refine' tkL 5 ?_;refine' tkL 6 ?_;refine' tkR 7 (v:=.bool false) rfl (Or.inr ⟨by rfl,85,_, ?hx7_870, ?hy7_870⟩) ?rest7_870
       case hx7_870=>(intro w hSw;go_simp;try with_reducible rfl)
       case hy7_870=>exact fun w hE=>(HAS2.out _ hE).mono (fun _ _ h=>⟨h.1,h.2,Ext.trans hE h.2⟩)
       refine layy ?_;refine' tkL 8 ?_;refine' tkL 9 ?_;refine' tkL 10 ?_;refine' tkL 11 ?_;refine' tkL 12 ?_;refine' tkL 13 ?_;refine' tkL 14 ?_;refine' tkL 15 ?_;refine' tkL 16 ?_;refine' tkL 17 ?_;refine' tkL 18 ?_;refine' tkR 19 (v:=.slice (some ⟨r.gb,r.go+(a+4),none⟩) fl (r.wc-(a+4))) rfl (Or.inr ⟨by rfl,88,_, ?hx19_882, ?hy19_882⟩) ?rest19_882
       case hx19_882=>(intro w hSw;go_simp;try with_reducible rfl)
       case hy19_882=>exact fun w hE=>(FLB.out _ (EWH.out.trans hE)).mono (fun _ _ h=>⟨h.1,h.2,Ext.trans hE h.2⟩)
       refine layy ?_;refine' tkR 20 (v:=.int .i64 (j:Int)) rfl (Or.inr ⟨by rfl,137,_, ?hx20_883, ?hy20_883⟩) ?rest20_883
       case hx20_883=>(intro w hSw;go_simp;try with_reducible rfl)
       case hy20_883=>exact fun w hE=>(CHN.out _ (EWH.out.trans hE)).mono (fun _ _ h=>⟨h.1,h.2,Ext.trans hE h.2⟩)
       refine layy ?_;refine' tkL 21 ?_;refine' tkL 22 ?_;refine' tkL 23 ?_;refine wpAnyR_done (by kernel_rfl) ?_ _;intro x1 _ Ex1;clear pr46a pr46b;have E6:=hZ (E5.out.trans Ex1);have RA:Hid (Row (x1.alloc (.cells #[.int .i64 (a:Int)] 3)) w1.heap.size p5 c5 (castL (Hp.allCh ch j ++ P))):=hZ ((R5.out.ext Ex1).ext (Ext.alloc (Ext.refl _) _));have w1x:w1.heap.size<=x1.heap.size:=E6.out.le;have few2:(castL (Hp.allCh ch j ++ P)).length < 10000000:=by omega
       have i3:(a:Int)+3 < (n:Int):=by omega
       go_wp2_with (at_builtin;refine wpList_append_int rfl _ _ rfl (y:=(a:Int)) rfl rfl RA.out (by go_simp) (by omega) (by omega) few2 (by simp;omega) ?_;intro g8 c8 x8 hR8 hG8;obtain ⟨row,hgr,hrow⟩:=id hG8;have E8:Ext w1 x8:=ext_grow (E6.out.alloc _) hgr hrow;have c28:=((E1.out.trans E8).cell hlt 2).trans c2;have gz8:=GZ.out _ (E1.out.trans E8);have R8H:=hZ hR8)
       go_roundg Q.length
       case measure=>simp only [List.length_cons] at hg2;omega
       case rel=>exact ⟨P ++ [a],Q,y3,some ⟨g8,0,none⟩,c8,Nat.le_refl _,rfl,by rw [EPH.out];simp,EC2,PQ,hZ (by rw [EPH.out];exact R8H.out),hZ E8⟩
   have:j=16:=by omega
   subst this;have tk:decide ((16:Int) < 16)=false:=by decide
   have hl:(castL (Hp.allCh ch 16)).length=m:=by rw [castL_len,TLH.out,EM.out]
   rw [hl];clear hl
   go_wp2_with fail
   go_returns;exact ⟨by simp,E1.out.trans E.out⟩
end Go.Proofs.YtdokmmhjmclmnaaGreat
