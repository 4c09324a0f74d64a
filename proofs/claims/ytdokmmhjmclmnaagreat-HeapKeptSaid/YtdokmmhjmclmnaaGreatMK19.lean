/-
  Part 19 of a proof: RH6 RH7 PL31 PL34.
-/
import Derived.BigRegion
import Derived.Test.YtdokmmhjmclmnaaGreatMK07
import Derived.Test.YtdokmmhjmclmnaaGreatMK12
import Derived.Test.YtdokmmhjmclmnaaGreatMK16
set_option linter.unusedSimpArgs false
set_option linter.unusedVariables false
set_option linter.unusedSectionVars false
set_option linter.unnecessarySimpa false
namespace Go.Proofs.YtdokmmhjmclmnaaGreat
variable {W' w w' w0:World} {B a b base c ca cap f g i j k k1 k2 m n oc sb sc:Nat} {choice e t x:Int} {W fs l o z:List Int} {A T:List Nat} {op p p1 p2 pa pe pn q sp:Option Addr} {d:Hd} {S S':Hp.Hs} {r:Rd} {L:List Hp.Tl} {M:List (Nat × Int)} {s s':Hp.Sc} {acts:List Hp.Act'}
open Go.RowKit Go.Maps
theorem alike_true (h:∀ k,k < l.length->Hp.rd l k=Hp.rd l 0):Hp.Hs.alike l=true:=by
 unfold Hp.Hs.alike
 rw [List.all_eq_true]
 intro x hx
 obtain ⟨k,hk,rfl⟩:=List.getElem_of_mem hx
 have h1:=h k hk
 unfold Hp.rd at h1
 rw [List.getElem?_eq_getElem hk,List.getElem?_eq_getElem (by omega)] at h1
 cases l with
 | nil=>simp at hk
 | cons y r=>
  have:=Option.some.inj h1;simp only [List.getElem_cons_zero] at this;simp [this]
theorem alike_false {y:Int} (h:Hp.rd l k=some x) (h0:Hp.rd l 0=some y) (hne:x ≠ y):Hp.Hs.alike l=false:=by
 cases ha:Hp.Hs.alike l with
 | false=>rfl
 | true=>
  unfold Hp.Hs.alike at ha;rw [List.all_eq_true] at ha;have h1:=ha x (List.mem_of_getElem? h)
  cases l with
  | nil=>simp [Hp.rd] at h0
  | cons z r=>
   have e:z=y:=by simpa [Hp.rd] using h0
   subst e;have:x=z:=by simpa using h1
   exact absurd this hne
set_option maxHeartbeats 2000000 in
theorem dFlat {v:Int} {b:Bool} (h:SliceAt w p c l) (hb:Hp.Hs.alike l=b) :
    Calls Tryz.prog 136 #[.agg #[.int .i64 v,.slice p l.length c]] w fun e w'=>e = .returned (.bool b)/\Ext w w':=by
  have hle:=h.le;have hcap:=h.cap;have H:=hZ h;have HB:=hZ hb;clear h hb;generalize hL:l.length=n at hle ⊢;have HL:=hZ hL;clear hL;go_enter Tryz.func136,Tryz.ntmps136
  go_wp2_with fail
  have E0:Ext w (w.alloc (.cells #[.int .i64 v,.slice p n c] 41)):=exx;have c1:(w.alloc (.cells #[.int .i64 v,.slice p n c] 41)).cell? ⟨w.heap.size,1,none⟩=some (.slice p n c):=by simp [go_sem]
  have z1:w.heap.size < (w.alloc (.cells #[.int .i64 v,.slice p n c] 41)).heap.size:=by simp
  generalize hB:w.heap.size=bx at c1 z1 ⊢;generalize w.alloc (.cells #[.int .i64 v,.slice p n c] 41)=w0 at *;have E0H:=hZ E0;clear E0 hB
  go_loopg [3] (n+1) (fun g i wr=>∃ j:Nat,1<=j/\j<=n+1/\n+1-j<=g/\i = .int .i64 j/\Hid (Ext w0 wr)/\Hid (∀ k,k < j->k < n->Hp.rd l k=Hp.rd l 0))
  case atStart=>exact ⟨1,by omega,by omega,by omega,rfl,hZ (Ext.refl _),hZ (fun k hk _=>by rw [show k=0 by omega])⟩
  case round=>
   obtain ⟨j,hj1,hj,hg,rfl,E,A⟩:=hrel;have c1':=(E.out.cell z1 1).trans c1;have zr:=Nat.lt_of_lt_of_le z1 E.out.le
   by_cases hlt:j < n
   . obtain ⟨x,hx⟩:=rd_get (l:=l) (j:=j) (by rw [HL.out];exact hlt);obtain ⟨y,hy⟩:=rd_get (l:=l) (j:=0) (by rw [HL.out];omega);have EX:=E0H.out.trans E.out;obtain ⟨bb,o,hp,hbb,hc⟩:=(H.out.ext EX).cells (by rw [HL.out];omega);have gx:=hc j x hx;have gy:=hc 0 y hy;rw [Nat.add_zero] at gy;have HX:=hZ hx;have HY:=hZ hy;have tk:decide ((j:Int) < (n:Int))=true:=dT;have n0:0 < n:=by omega
     clear hc hx hy;subst hp
     by_cases hxy:x=y
     . have t0:(x != y)=false:=by simpa using hxy
       have A2:Hid (∀ k,k < j+1->k < n->Hp.rd l k=Hp.rd l 0):=hZ (fun k hk hkn=>by
        by_cases e:k=j
        . subst e;rw [HX.out,HY.out,hxy]
        . exact A.out k (by omega) hkn)
       clear hxy
       go_wp2_with fail
       have pr44a:=fun u_ (h_:Ext wr u_)=>(h_.cell zr 1).trans c1'
       have pr44b:=fun u_ (h_:Ext wr u_)=>(h_.cell hbb (o+j)).trans gx
       have pr44c:=fun u_ (h_:Ext wr u_)=>(h_.cell hbb o).trans gy
       refine wp_region_seq (S:=fun W=>Ext wr W) (R:=Ext) (by kernel_rfl) Ext.refl ?_ ?_
       . exact exx
       refine' tkL 0 ?_;refine' tkL 1 ?_;refine' tkL 2 ?_;refine' tkL 3 ?_;refine' tkL 4 ?_;refine' tkL 5 ?_;refine' tkL 6 ?_;refine' tkL 7 ?_;refine' tkL 8 ?_;refine' tkL 9 ?_;refine wpAnyR_done (by kernel_rfl) ?_ _;intro x1 _ Ex1;clear pr44a pr44b pr44c;have E2:=hZ (E.out.trans Ex1)
       go_wp2_with fail
       go_roundg (n+1-(j+1))
       case measure=>omega
       case rel=>exact ⟨j+1,by omega,by omega,Nat.le_refl _,by go_num,E2,A2⟩
     have t0:(x != y)=true:=by simpa using hxy
     have hbf:b=false:=by rw [<- HB.out];exact alike_false HX.out HY.out hxy
     subst hbf;clear hxy
     go_wp2_with fail
     have pr45a:=fun u_ (h_:Ext wr u_)=>(h_.cell zr 1).trans c1'
     have pr45b:=fun u_ (h_:Ext wr u_)=>(h_.cell hbb (o+j)).trans gx
     have pr45c:=fun u_ (h_:Ext wr u_)=>(h_.cell hbb o).trans gy
     refine wp_region_seq (S:=fun W=>Ext wr W) (R:=Ext) (by kernel_rfl) Ext.refl ?_ ?_
     . exact exx
     refine' tkL 0 ?_;refine' tkL 1 ?_;refine' tkL 2 ?_;refine' tkL 3 ?_;refine' tkL 4 ?_;refine' tkL 5 ?_;refine' tkL 6 ?_;refine' tkL 7 ?_;refine' tkL 8 ?_;refine' tkL 9 ?_;refine wpAnyR_done (by kernel_rfl) ?_ _;intro x1 _ Ex1;clear pr45a pr45b pr45c
     go_wp2_with fail
     go_returns;exact ⟨rfl,EX.trans Ex1⟩
   have tk:decide ((j:Int) < (n:Int))=false:=dF;have hbt:b=true:=by
    rw [<- HB.out];exact alike_true fun k hk=>A.out k (by have:=HL.out;omega) (by have:=HL.out;omega)
   subst hbt
   go_wp2_with fail
   go_returns;exact ⟨rfl,E0H.out.trans E.out⟩
set_option maxRecDepth 100000 in
set_option maxHeartbeats 4000000 in
theorem rCheckNode {ch:Nat->List Nat} (h:RAt w r S) (hw:Hp.Wf S B L ch) (ha:a ∈ S.taken) (he:Hp.isEnd (Hp.ow S.words a)=false) {qc:Nat} (hq:SliceAt w q qc (Hp.fz (Hp.ow S.words) S.sizes a)) :
    Calls Tryz.prog 135 #[.pointer (some ⟨r.rb,0,none⟩),.int .i64 (Hp.ow S.words a-1),.slice q (Hp.fz (Hp.ow S.words) S.sizes a).length qc] w fun e w'=>e = .returned (.int .i64 0)/\Ext w w':=by
  have hn:=Hp.isNode_of (hw.cells.tags a ha) he;have hm:=order_mem hw.fr hn;obtain ⟨k,k1,k2,k3⟩:=index_spec hm;have hrk:Hp.rank S.order (Hp.ow S.words a)=(k:Int):=by rw [rank_node (z:=S.sizes) he,k1]
  have PL:=hZ (fun W (hW:Ext w W)=>rPlace (h.ext hW) k2 k3);have KID:∀ i,i < (Hp.fz (Hp.ow S.words) S.sizes a).length -> ∃ b:Nat,Hp.rd (Hp.fz (Hp.ow S.words) S.sizes a) i=some (b:Int)/\b ∈ S.taken/\(k:Int) < Hp.rank S.order (Hp.ow S.words b):=fun i hi=>by
   have hmm:(Hp.fz (Hp.ow S.words) S.sizes a)[i] ∈ Hp.kz (Hp.ow S.words) S.sizes a:=by
    unfold Hp.kz;rw [he];simp only [Bool.false_eq_true,if_false];exact List.getElem_mem hi
   obtain ⟨b,hb,e,hr⟩:=hw.cells.kids a ha _ hmm;rw [hrk] at hr;exact ⟨b,by unfold Hp.rd;rw [List.getElem?_eq_getElem hi,e],hb,hr⟩
  simp only [Hp.isNode,Hp.within,Bool.and_eq_true,decide_eq_true_eq] at hn;have few:=hw.fr.few;have hsz:∃ i:Nat,Hp.ow S.words a=(i:Int)+1/\i < S.sizes.length/\Hp.rd S.sizes i=some ((Hp.fz (Hp.ow S.words) S.sizes a).length:Int):=by
   refine ⟨(Hp.ow S.words a-1).toNat,by omega,by omega, ?_⟩;have hl:(Hp.ow S.words a-1).toNat < S.sizes.length:=by omega
   rw [Hp.rd_ow hl,Hp.fz_length];unfold Hp.wz;rw [he];have hp:=hw.fr.pos _ (List.getElem_mem hl);have e2:S.sizes.getD (Hp.ow S.words a-1).toNat 0=Hp.ow S.sizes (Hp.ow S.words a-1).toNat:=rfl;have e3:Hp.ow S.sizes (Hp.ow S.words a-1).toNat=S.sizes[(Hp.ow S.words a-1).toNat]:=(Hp.ow_rd (by unfold Hp.rd;rw [List.getElem?_eq_getElem hl])).1;rw [e2];simp only [Bool.false_eq_true,if_false];rw [e3] at *
   congr 1
   omega
  obtain ⟨i,hi1,hi2,hi3⟩:=hsz;have IS:=hZ (fun b (hb:b ∈ S.taken) W (hW:Ext w W)=>rIs_yes (h.ext hW) hw hb);have RK:=hZ (fun b (hb:b ∈ S.taken) W (hW:Ext w W)=>rRank (h.ext hW) hw hb);have H:=hZ h;have HQ:=hZ hq;have HK:=hZ KID;have qle:=hq.le;have qcap:=hq.cap;have sle:=h.sizes.le;have scap:=h.sizes.cap;obtain ⟨sb,so,hsp,hsb,hsc⟩:=h.sizes.cells (by omega);have gs:=hsc i _ hi3;have c0:=h.c0;rw [hsp] at c0;have hlt:=h.lt;have hkb:k<=100:=by
   have:=rd_lt k2;have:=hw.fr.len;omega
  have hrl:∀ b,b ∈ S.taken->Hp.rank S.order (Hp.ow S.words b)<=100:=fun b hb=>by
   unfold Hp.rank
   split
   . have:=hw.fr.len;omega
   unfold Hp.index
   split
   . rename_i j hj;rw [List.findIdx?_eq_some_iff_getElem] at hj;have:=hj.1;have:=hw.fr.len;omega
   omega
  have HRL:=hZ hrl;rw [hi1] at PL ⊢;rw [show (i:Int)+1-1=(i:Int) by omega] at PL ⊢;obtain ⟨fs,hfs⟩:∃ fs,Hp.fz (Hp.ow S.words) S.sizes a=fs:=⟨_,rfl⟩
  rw [hfs] at gs qle HQ HK ⊢;obtain ⟨m,hm'⟩:∃ m,fs.length=m:=⟨_,rfl⟩
  have EM:=hZ hm';rw [hm'] at gs qle ⊢;obtain ⟨n,hn'⟩:∃ n,S.sizes.length=n:=⟨_,rfl⟩
  rw [hn'] at c0 sle few hi2;have IN:Hid (∀ W,Calls Tryz.prog 66 #[.int .i64 (i:Int),.int .i64 0,.int .i64 ((n:Int)-1)] W fun e w'=>e = .returned (.bool true)/\Ext W w'):=hZ (fun W=>by
   have:=dIn (i:Int) 0 ((n:Int)-1) W;rw [show Hp.within 0 ((n:Int)-1) (i:Int)=true by simp [Hp.within];omega] at this;exact this)
  clear h hw ha he hq KID hn hm k1 k2 k3 hrk hi1 hi3 hsc hsp hfs hm' hn' hrl;go_enter Tryz.func135,Tryz.ntmps135
  go_wp2_with (go_at_call 66;refine (IN.out _).mono ?_;rintro e w1 ⟨rfl,hb1⟩;obtain ⟨hc1,hf1,hs1⟩:=hb1.cells;have c0':=(hb1.cell hlt 0).trans c0;have gs':=(hb1.cell hsb (so+i)).trans gs)
  have E1:=hZ hb1;clear hb1 hc1 hf1 hs1 c0' gs'
  go_loopg [7] m (fun g s wr=>∃ j:Nat,j<=m/\m-j<=g/\s = .int .i64 j/\Hid (Ext w wr))
  case atStart=>exact ⟨0,Nat.zero_le _,by omega,rfl,E1⟩
  case round=>
   obtain ⟨j,hj,hg,rfl,E⟩:=hrel
   by_cases hlt2:j < m
   . obtain ⟨b,hb1,hb2,hb3⟩:=HK.out j (by rw [EM.out];exact hlt2);obtain ⟨qb,qo,hqp,hqb,hqc⟩:=(HQ.out.ext E.out).cells (by rw [EM.out];omega);have gq:=hqc j _ hb1;have ISB:=hZ (fun W (hW:Ext w W)=>IS.out b hb2 W hW);have tk:decide ((j:Int) < (m:Int))=true:=dT;clear hqc hb1 hb2 hb3;subst hqp
     go_wp2_with (go_at_call 26;refine (ISB.out _ E.out).mono ?_;rintro e w2 ⟨rfl,hE2⟩)
     have E2:=hZ (E.out.trans hE2)
     go_roundg (m-(j+1))
     case measure=>omega
     case rel=>exact ⟨j+1,by omega,Nat.le_refl _,by go_num,E2⟩
   have tk:decide ((j:Int) < (m:Int))=false:=dF
   go_wp2_with fail
   clear tk hj hg hlt2 E1
   go_loopg [8] m (fun g s wr=>∃ j:Nat,j<=m/\m-j<=g/\s = .int .i64 j/\Hid (Ext w wr))
   case atStart=>exact ⟨0,Nat.zero_le _,by omega,rfl,E⟩
   case round=>
    obtain ⟨j,hj,hg,rfl,E⟩:=hrel
    by_cases hlt2:j < m
    . obtain ⟨b,hb1,hb2,hb3⟩:=HK.out j (by rw [EM.out];exact hlt2);obtain ⟨qb,qo,hqp,hqb,hqc⟩:=(HQ.out.ext E.out).cells (by rw [EM.out];omega);have gq:=hqc j _ hb1;have RKB:=hZ (fun W (hW:Ext w W)=>RK.out b hb2 W hW);have hb4:=HRL.out b hb2;have tk:decide ((j:Int) < (m:Int))=true:=dT;clear hqc hb1 hb2;generalize Hp.rank S.order (Hp.ow S.words b)=rk at *;have t0:decide (rk<=(k:Int))=false:=dF;subst hqp
      go_wp2_with (first
       | (go_at_call 172;refine (RKB.out _ E.out).mono ?_;rintro e w2 ⟨rfl,hE2⟩)
       | (go_at_call 173;refine (PL.out _ (E.out.trans hE2)).mono ?_;rintro e w3 ⟨rfl,hE3⟩))
      have E2:=hZ (E.out.trans (hE2.trans hE3))
      go_roundg (m-(j+1))
      case measure=>omega
      case rel=>exact ⟨j+1,by omega,Nat.le_refl _,by go_num,E2⟩
    have tk:decide ((j:Int) < (m:Int))=false:=dF
    go_wp2_with fail
    go_returns;exact ⟨rfl,E.out⟩
namespace Hp
def scanF:List Int->Int->Int
 | a :: b :: r,x=>if a=x then b else scanF r x
 | _,x=>x
theorem scanF_told:∀ {M:List (Nat × Int)},KeysUp M -> ∀ x:Int,scanF (told M) x=if x < 0 then x else (getI x.toNat M).getD x
 | [],_,x=>by
  show x=_;simp [getI]
 | (a,v) :: r,hu,x=>by
  obtain ⟨h1,h2⟩:=List.pairwise_cons.1 hu;have ih:=scanF_told h2 x;unfold told at ih ⊢;rw [List.flatMap_cons];unfold getI
  by_cases hx:x < 0
  . rw [if_pos hx] at ih ⊢
    split
    . show (if (a:Int)=x then v else scanF _ x)=x;rw [if_neg (by omega)];exact ih
    exact ih
  rw [if_neg hx] at ih ⊢
  by_cases ha:a=x.toNat
  . subst ha;rw [if_pos rfl]
    split
    . show (if ((x.toNat:Nat):Int)=x then v else scanF _ x)=v;rw [if_pos (by omega)]
    rename_i hv;have hv':v=((x.toNat:Nat):Int):=by simpa using hv
    have e:getI x.toNat r=none:=getI_none fun p hp=>h1 p hp
    rw [List.nil_append,ih,e];show x=v;omega
  rw [if_neg ha]
  split
  . show (if (a:Int)=x then v else scanF _ x)=_;rw [if_neg (by omega)];exact ih
  exact ih
theorem comp_after {S1 S2:Hs} {cm:Nat} {ch:Nat->List Nat} (hw:Wf S B L ch) (hco:S.collect=some (cm,S1)) (hmv:S1.moved=some (M,S2)):S1.compacted=some (told M,S2):=by
 obtain ⟨T,hT⟩:=live_total hw
 obtain ⟨S',L',e,hc,hw'⟩:=collect_wf hw hT
 rw [hco] at e
 simp only [Option.some.injEq,Prod.mk.injEq] at e
 obtain ⟨_,rfl⟩:=e
 have e:=collect_all hw' (coll_live hw hw' hT hc)
 unfold Hs.compacted
 rw [e]
 simp only [Option.bind_eq_bind,Option.bind_some]
 rw [hmv]
 rfl
theorem scanF_step {a b:Int} (ha:rd l k=some a) (hb:rd l (k+1)=some b):scanF (l.drop k) x=if a=x then b else scanF (l.drop (k+2)) x:=by
 obtain ⟨h1,e1⟩:=List.getElem?_eq_some_iff.1 ha
 obtain ⟨h2,e2⟩:=List.getElem?_eq_some_iff.1 hb
 rw [List.drop_eq_getElem_cons h1,List.drop_eq_getElem_cons h2,e1,e2]
 rfl
theorem scanF_end (h:l.length<=k+1):scanF (l.drop k) x=x:=by
 have h1:(l.drop k).length<=1:=by rw [List.length_drop];omega
 match l.drop k,h1 with
 | [],_=>rfl
 | [_],_=>rfl
theorem told_even:∀ M:List (Nat × Int),(told M).length % 2=0
 | []=>by simp [told]
 | p :: r=>by
  have:=told_even r;unfold told at this ⊢;rw [List.flatMap_cons,List.length_append]
  split <;> simp only [List.length_cons,List.length_nil] <;> omega
end Hp
namespace Hp
theorem like_same {ch:Nat->List Nat} (_:Wf S B L ch) (hc:∀ a ∈ T,isEnd (ow S.words a)=false -> ∀ k ∈ (fz (ow S.words) S.sizes a).map Int.toNat,k ∈ T) (hs:S'.sizes=S.sizes) (ho:Same (ow S.words) (ow S'.words) S.sizes T):Like S S' T id where
 tag a ha:=(ho a ha).1
 endw a ha he:=by
  have:=(ho a ha).2 0 (by simp [wz,he])
  simpa using this
 kids a ha _:=by
  rw [hs];show ((fz (ow S'.words) S.sizes a).map Int.toNat)=_;rw [ho.fz_ ha,List.map_id]
 closed:=hc
 inj _ _ _ _ e:=e
theorem like_hold {ch:Nat->List Nat} (h:Wf S B L ch) (hs:S'.sizes=S.sizes) (ho:Same (ow S.words) (ow S'.words) S.sizes S.taken):Like S S' S.taken id:=
 like_same h (fun a ha he k hk=>(h.kid_in ha he k hk).1) hs ho
theorem like_coll {B':Nat} {L':List Tl} {ch ch':Nat->List Nat} (h:Wf S B L ch) (h':Wf S' B' L' ch') (hc:Coll S S' T):Like S S' S'.taken id:=by
 refine like_same h (fun a ha he k hk=>?_) hc.sizes hc.old
 have e:ow S'.words a=ow S.words a:=(hc.old a ha).1
 refine (h'.kid_in ha (by rw [e];exact he) k ?_).1
 rw [hc.sizes,hc.old.fz_ ha]
 exact hk
theorem like_moved {ch:Nat->List Nat} (h:Wf S B L ch) {m:Nat->Nat} (hm:Moved S S' M m):Like S S' S.taken m where
 tag a ha:=hm.tag a ha
 endw a ha he:=by
  have e:=hm.fs a ha;have t:=hm.tag a ha;have h1:(fz (ow S'.words) S.sizes (m a))=[ow S'.words (m a+4)]:=by
   unfold fz;rw [t,show wz S.sizes (ow S.words a)-4=1 by simp [wz,he]];rfl
  have h2:nz (ow S.words) S.sizes m a=[ow S.words (a+4)]:=by
   unfold nz;rw [he];simp only [if_true];unfold fz;rw [show wz S.sizes (ow S.words a)-4=1 by simp [wz,he]];rfl
  rw [h1,h2] at e
  simpa using e
 kids a ha he:=by
  rw [hm.sizes,hm.fs a ha];unfold nz;rw [he];simp only [Bool.false_eq_true,if_false,List.map_map];refine List.map_congr_left fun x _=>?_
  simp [to']
 closed a ha he k hk:=(h.kid_in ha he k hk).1
 inj:=hm.inj
end Hp
end Go.Proofs.YtdokmmhjmclmnaaGreat
