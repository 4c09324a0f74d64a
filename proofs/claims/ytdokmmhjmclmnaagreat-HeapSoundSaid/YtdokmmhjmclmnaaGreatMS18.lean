/-
  Part 18 of a proof: RH6 RH7 PL21 PL22 PL23 PL24 PL25 PL26 RP1 RP2 PL27 PL28 PL29.
-/
import Derived.BigRegion
import Derived.Test.YtdokmmhjmclmnaaGreatMS04
import Derived.Test.YtdokmmhjmclmnaaGreatMS15
set_option linter.unusedSimpArgs false
set_option linter.unusedVariables false
set_option linter.unusedSectionVars false
set_option linter.unnecessarySimpa false
namespace Go.Proofs.YtdokmmhjmclmnaaGreat
variable {W' w w' w0:World} {B a b base c ca cap f g i j k k1 k2 lb n oc qc sb sc:Nat} {choice e t x:Int} {A V W fs l o z:List Int} {D T Y:List Nat} {op p p1 p2 pa q sp:Option Addr} {d:Hd} {S S':Hp.Hs} {r:Rd} {L:List Hp.Tl} {M:List (Nat × Int)} {s s' s1:Hp.Sc} {acts:List Hp.Act'} {c0 c1:Value}
open Go.RowKit Go.Maps
theorem alike_true (h:∀ k,k < l.length->Hp.rd l k=Hp.rd l 0):Hp.Hs.alike l=true:=by
 unfold Hp.Hs.alike
 rw [List.all_eq_true]
 intro x hx
 obtain ⟨k,hk,rfl⟩:=List.getElem_of_mem hx
 have h1:=h k hk
 unfold Hp.rd at h1
 rw [List.getElem?_eq_getElem hk,List.getElem?_eq_getElem (by omega)] at h1
 cases l with
 | nil=>simp at hk
 | cons y r=>
  have:=Option.some.inj h1;simp only [List.getElem_cons_zero] at this;simp [this]
theorem alike_false {y:Int} (h:Hp.rd l k=some x) (h0:Hp.rd l 0=some y) (hne:x ≠ y):Hp.Hs.alike l=false:=by
 cases ha:Hp.Hs.alike l with
 | false=>rfl
 | true=>
  unfold Hp.Hs.alike at ha;rw [List.all_eq_true] at ha;have h1:=ha x (List.mem_of_getElem? h)
  cases l with
  | nil=>simp [Hp.rd] at h0
  | cons z r=>
   have e:z=y:=by simpa [Hp.rd] using h0
   subst e;have:x=z:=by simpa using h1
   exact absurd this hne
set_option maxHeartbeats 2000000 in
theorem dFlat {v:Int} {b:Bool} (h:SliceAt w p c l) (hb:Hp.Hs.alike l=b) :
    Calls Tryz.prog 136 #[.agg #[.int .i64 v,.slice p l.length c]] w fun e w'=>e = .returned (.bool b)/\Ext w w':=by
  have hle:=h.le;have hcap:=h.cap;have H:=hZ h;have HB:=hZ hb;clear h hb;generalize hL:l.length=n at hle ⊢;have HL:=hZ hL;clear hL;go_enter Tryz.func136,Tryz.ntmps136
  go_wp2_with fail
  have E0:Ext w (w.alloc (.cells #[.int .i64 v,.slice p n c] 41)):=exx;have c1:(w.alloc (.cells #[.int .i64 v,.slice p n c] 41)).cell? ⟨w.heap.size,1,none⟩=some (.slice p n c):=by simp [go_sem]
  have z1:w.heap.size < (w.alloc (.cells #[.int .i64 v,.slice p n c] 41)).heap.size:=by simp
  generalize hB:w.heap.size=bx at c1 z1 ⊢;generalize w.alloc (.cells #[.int .i64 v,.slice p n c] 41)=w0 at *;have E0H:=hZ E0;clear E0 hB
  go_loopg [3] (n+1) (fun g i wr=>∃ j:Nat,1<=j/\j<=n+1/\n+1-j<=g/\i = .int .i64 j/\Hid (Ext w0 wr)/\Hid (∀ k,k < j->k < n->Hp.rd l k=Hp.rd l 0))
  case atStart=>exact ⟨1,by omega,by omega,by omega,rfl,hZ (Ext.refl _),hZ (fun k hk _=>by rw [show k=0 by omega])⟩
  case round=>
   obtain ⟨j,hj1,hj,hg,rfl,E,A⟩:=hrel;have c1':=(E.out.cell z1 1).trans c1;have zr:=Nat.lt_of_lt_of_le z1 E.out.le
   by_cases hlt:j < n
   . obtain ⟨x,hx⟩:=rd_get (l:=l) (j:=j) (by rw [HL.out];exact hlt);obtain ⟨y,hy⟩:=rd_get (l:=l) (j:=0) (by rw [HL.out];omega);have EX:=E0H.out.trans E.out;obtain ⟨bb,o,hp,hbb,hc⟩:=(H.out.ext EX).cells (by rw [HL.out];omega);have gx:=hc j x hx;have gy:=hc 0 y hy;rw [Nat.add_zero] at gy;have HX:=hZ hx;have HY:=hZ hy;have tk:decide ((j:Int) < (n:Int))=true:=dT;have n0:0 < n:=by omega
     clear hc hx hy;subst hp
     by_cases hxy:x=y
     . have t0:(x != y)=false:=by simpa using hxy
       have A2:Hid (∀ k,k < j+1->k < n->Hp.rd l k=Hp.rd l 0):=hZ (fun k hk hkn=>by
        by_cases e:k=j
        . subst e;rw [HX.out,HY.out,hxy]
        . exact A.out k (by omega) hkn)
       clear hxy
       go_wp2_with fail
       have pr44a:=fun u_ (h_:Ext wr u_)=>(h_.cell zr 1).trans c1'
       have pr44b:=fun u_ (h_:Ext wr u_)=>(h_.cell hbb (o+j)).trans gx
       have pr44c:=fun u_ (h_:Ext wr u_)=>(h_.cell hbb o).trans gy
       refine wp_region_seq (S:=fun W=>Ext wr W) (R:=Ext) (by kernel_rfl) Ext.refl ?_ ?_
       . exact exx
       refine' tkL 0 ?_;refine' tkL 1 ?_;refine' tkL 2 ?_;refine' tkL 3 ?_;refine' tkL 4 ?_;refine' tkL 5 ?_;refine' tkL 6 ?_;refine' tkL 7 ?_;refine' tkL 8 ?_;refine' tkL 9 ?_;refine wpAnyR_done (by kernel_rfl) ?_ _;intro x1 _ Ex1;clear pr44a pr44b pr44c;have E2:=hZ (E.out.trans Ex1)
       go_wp2_with fail
       go_roundg (n+1-(j+1))
       case measure=>omega
       case rel=>exact ⟨j+1,by omega,by omega,Nat.le_refl _,by go_num,E2,A2⟩
     have t0:(x != y)=true:=by simpa using hxy
     have hbf:b=false:=by rw [<- HB.out];exact alike_false HX.out HY.out hxy
     subst hbf;clear hxy
     go_wp2_with fail
     have pr45a:=fun u_ (h_:Ext wr u_)=>(h_.cell zr 1).trans c1'
     have pr45b:=fun u_ (h_:Ext wr u_)=>(h_.cell hbb (o+j)).trans gx
     have pr45c:=fun u_ (h_:Ext wr u_)=>(h_.cell hbb o).trans gy
     refine wp_region_seq (S:=fun W=>Ext wr W) (R:=Ext) (by kernel_rfl) Ext.refl ?_ ?_
     . exact exx
     refine' tkL 0 ?_;refine' tkL 1 ?_;refine' tkL 2 ?_;refine' tkL 3 ?_;refine' tkL 4 ?_;refine' tkL 5 ?_;refine' tkL 6 ?_;refine' tkL 7 ?_;refine' tkL 8 ?_;refine' tkL 9 ?_;refine wpAnyR_done (by kernel_rfl) ?_ _;intro x1 _ Ex1;clear pr45a pr45b pr45c
     go_wp2_with fail
     go_returns;exact ⟨rfl,EX.trans Ex1⟩
   have tk:decide ((j:Int) < (n:Int))=false:=dF;have hbt:b=true:=by
    rw [<- HB.out];exact alike_true fun k hk=>A.out k (by have:=HL.out;omega) (by have:=HL.out;omega)
   subst hbt
   go_wp2_with fail
   go_returns;exact ⟨rfl,E0H.out.trans E.out⟩
set_option maxRecDepth 100000 in
set_option maxHeartbeats 4000000 in
theorem rCheckNode {ch:Nat->List Nat} (h:RAt w r S) (hw:Hp.Wf S B L ch) (ha:a ∈ S.taken) (he:Hp.isEnd (Hp.ow S.words a)=false) (hq:SliceAt w q qc (Hp.fz (Hp.ow S.words) S.sizes a)) :
    Calls Tryz.prog 135 #[.pointer (some ⟨r.rb,0,none⟩),.int .i64 (Hp.ow S.words a-1),.slice q (Hp.fz (Hp.ow S.words) S.sizes a).length qc] w fun e w'=>e = .returned (.int .i64 0)/\Ext w w':=by
  have hn:=Hp.isNode_of (hw.cells.tags a ha) he;have hm:=order_mem hw.fr hn;obtain ⟨k,k1,k2,k3⟩:=index_spec hm;have hrk:Hp.rank S.order (Hp.ow S.words a)=(k:Int):=by rw [rank_node (z:=S.sizes) he,k1]
  have PL:=hZ (fun W (hW:Ext w W)=>rPlace (h.ext hW) k2 k3);have KID:∀ i,i < (Hp.fz (Hp.ow S.words) S.sizes a).length -> ∃ b:Nat,Hp.rd (Hp.fz (Hp.ow S.words) S.sizes a) i=some (b:Int)/\b ∈ S.taken/\(k:Int) < Hp.rank S.order (Hp.ow S.words b):=fun i hi=>by
   have hmm:(Hp.fz (Hp.ow S.words) S.sizes a)[i] ∈ Hp.kz (Hp.ow S.words) S.sizes a:=by
    unfold Hp.kz;rw [he];simp only [Bool.false_eq_true,if_false];exact List.getElem_mem hi
   obtain ⟨b,hb,e,hr⟩:=hw.cells.kids a ha _ hmm;rw [hrk] at hr;exact ⟨b,by unfold Hp.rd;rw [List.getElem?_eq_getElem hi,e],hb,hr⟩
  simp only [Hp.isNode,Hp.within,Bool.and_eq_true,decide_eq_true_eq] at hn;have few:=hw.fr.few;have hsz:∃ i:Nat,Hp.ow S.words a=(i:Int)+1/\i < S.sizes.length/\Hp.rd S.sizes i=some ((Hp.fz (Hp.ow S.words) S.sizes a).length:Int):=by
   refine ⟨(Hp.ow S.words a-1).toNat,by omega,by omega, ?_⟩;have hl:(Hp.ow S.words a-1).toNat < S.sizes.length:=by omega
   rw [Hp.rd_ow hl,Hp.fz_length];unfold Hp.wz;rw [he];have hp:=hw.fr.pos _ (List.getElem_mem hl);have e2:S.sizes.getD (Hp.ow S.words a-1).toNat 0=Hp.ow S.sizes (Hp.ow S.words a-1).toNat:=rfl;have e3:Hp.ow S.sizes (Hp.ow S.words a-1).toNat=S.sizes[(Hp.ow S.words a-1).toNat]:=(Hp.ow_rd (by unfold Hp.rd;rw [List.getElem?_eq_getElem hl])).1;rw [e2];simp only [Bool.false_eq_true,if_false];rw [e3] at *
   congr 1
   omega
  obtain ⟨i,hi1,hi2,hi3⟩:=hsz;have IS:=hZ (fun b (hb:b ∈ S.taken) W (hW:Ext w W)=>rIs_yes (h.ext hW) hw hb);have RK:=hZ (fun b (hb:b ∈ S.taken) W (hW:Ext w W)=>rRank (h.ext hW) hw hb);have H:=hZ h;have HQ:=hZ hq;have HK:=hZ KID;have qle:=hq.le;have qcap:=hq.cap;have sle:=h.sizes.le;have scap:=h.sizes.cap;obtain ⟨sb,so,hsp,hsb,hsc⟩:=h.sizes.cells (by omega);have gs:=hsc i _ hi3;have c0:=h.c0;rw [hsp] at c0;have hlt:=h.lt;have hkb:k<=100:=by
   have:=rd_lt k2;have:=hw.fr.len;omega
  have hrl:∀ b,b ∈ S.taken->Hp.rank S.order (Hp.ow S.words b)<=100:=fun b hb=>by
   unfold Hp.rank
   split
   . have:=hw.fr.len;omega
   unfold Hp.index
   split
   . rename_i j hj;rw [List.findIdx?_eq_some_iff_getElem] at hj;have:=hj.1;have:=hw.fr.len;omega
   omega
  have HRL:=hZ hrl;rw [hi1] at PL ⊢;rw [show (i:Int)+1-1=(i:Int) by omega] at PL ⊢;obtain ⟨fs,hfs⟩:∃ fs,Hp.fz (Hp.ow S.words) S.sizes a=fs:=⟨_,rfl⟩
  rw [hfs] at gs qle HQ HK ⊢;obtain ⟨m,hm'⟩:∃ m,fs.length=m:=⟨_,rfl⟩
  have EM:=hZ hm';rw [hm'] at gs qle ⊢;obtain ⟨n,hn'⟩:∃ n,S.sizes.length=n:=⟨_,rfl⟩
  rw [hn'] at c0 sle few hi2;have IN:Hid (∀ W,Calls Tryz.prog 66 #[.int .i64 (i:Int),.int .i64 0,.int .i64 ((n:Int)-1)] W fun e w'=>e = .returned (.bool true)/\Ext W w'):=hZ (fun W=>by
   have:=dIn (i:Int) 0 ((n:Int)-1) W;rw [show Hp.within 0 ((n:Int)-1) (i:Int)=true by simp [Hp.within];omega] at this;exact this)
  clear h hw ha he hq KID hn hm k1 k2 k3 hrk hi1 hi3 hsc hsp hfs hm' hn' hrl;go_enter Tryz.func135,Tryz.ntmps135
  go_wp2_with (go_at_call 66;refine (IN.out _).mono ?_;rintro e w1 ⟨rfl,hb1⟩;obtain ⟨hc1,hf1,hs1⟩:=hb1.cells;have c0':=(hb1.cell hlt 0).trans c0;have gs':=(hb1.cell hsb (so+i)).trans gs)
  have E1:=hZ hb1;clear hb1 hc1 hf1 hs1 c0' gs'
  go_loopg [7] m (fun g s wr=>∃ j:Nat,j<=m/\m-j<=g/\s = .int .i64 j/\Hid (Ext w wr))
  case atStart=>exact ⟨0,Nat.zero_le _,by omega,rfl,E1⟩
  case round=>
   obtain ⟨j,hj,hg,rfl,E⟩:=hrel
   by_cases hlt2:j < m
   . obtain ⟨b,hb1,hb2,hb3⟩:=HK.out j (by rw [EM.out];exact hlt2);obtain ⟨qb,qo,hqp,hqb,hqc⟩:=(HQ.out.ext E.out).cells (by rw [EM.out];omega);have gq:=hqc j _ hb1;have ISB:=hZ (fun W (hW:Ext w W)=>IS.out b hb2 W hW);have tk:decide ((j:Int) < (m:Int))=true:=dT;clear hqc hb1 hb2 hb3;subst hqp
     go_wp2_with (go_at_call 26;refine (ISB.out _ E.out).mono ?_;rintro e w2 ⟨rfl,hE2⟩)
     have E2:=hZ (E.out.trans hE2)
     go_roundg (m-(j+1))
     case measure=>omega
     case rel=>exact ⟨j+1,by omega,Nat.le_refl _,by go_num,E2⟩
   have tk:decide ((j:Int) < (m:Int))=false:=dF
   go_wp2_with fail
   clear tk hj hg hlt2 E1
   go_loopg [8] m (fun g s wr=>∃ j:Nat,j<=m/\m-j<=g/\s = .int .i64 j/\Hid (Ext w wr))
   case atStart=>exact ⟨0,Nat.zero_le _,by omega,rfl,E⟩
   case round=>
    obtain ⟨j,hj,hg,rfl,E⟩:=hrel
    by_cases hlt2:j < m
    . obtain ⟨b,hb1,hb2,hb3⟩:=HK.out j (by rw [EM.out];exact hlt2);obtain ⟨qb,qo,hqp,hqb,hqc⟩:=(HQ.out.ext E.out).cells (by rw [EM.out];omega);have gq:=hqc j _ hb1;have RKB:=hZ (fun W (hW:Ext w W)=>RK.out b hb2 W hW);have hb4:=HRL.out b hb2;have tk:decide ((j:Int) < (m:Int))=true:=dT;clear hqc hb1 hb2;generalize Hp.rank S.order (Hp.ow S.words b)=rk at *;have t0:decide (rk<=(k:Int))=false:=dF;subst hqp
      go_wp2_with (first
       | (go_at_call 172;refine (RKB.out _ E.out).mono ?_;rintro e w2 ⟨rfl,hE2⟩)
       | (go_at_call 173;refine (PL.out _ (E.out.trans hE2)).mono ?_;rintro e w3 ⟨rfl,hE3⟩))
      have E2:=hZ (E.out.trans (hE2.trans hE3))
      go_roundg (m-(j+1))
      case measure=>omega
      case rel=>exact ⟨j+1,by omega,Nat.le_refl _,by go_num,E2⟩
    have tk:decide ((j:Int) < (m:Int))=false:=dF
    go_wp2_with fail
    go_returns;exact ⟨rfl,E.out⟩
namespace Hp
theorem lay_same {f g:Nat->Int} {z:List Int}:∀ {s n:Nat} {L L':List Tl},Lay s L n->Lay s L' n->Sep L->Sep L'->(∀ t ∈ L,t.fr=false->t.k=wz z (f t.a))->(∀ t ∈ L',t.fr=false->t.k=wz z (g t.a))->adsOf L=adsOf L'->(∀ a ∈ adsOf L,f a=g a)->L=L'
 | s,n,[],L',h,h',_,_,_,_,_,_=>by
  have e:s=n:=h
  cases L' with
  | nil=>rfl
  | cons t r=>
   obtain ⟨_,h2,h3⟩:=h';have:=h3.le;omega
 | s,n,t :: r,[],h,h',_,_,_,_,_,_=>by
  have e:s=n:=h';obtain ⟨_,h2,h3⟩:=h;have:=h3.le;omega
 | s,n,t :: r,t' :: r',h,h',hs,hs',hk,hk',ha,hf=>by
  obtain ⟨e1,h2,h3⟩:=h;obtain ⟨e1',h2',h3'⟩:=h';have eqa:∀ (u:Tl) (q:List Tl),adsOf (u :: q)=(if u.fr then [] else [u.a]) ++ adsOf q:=fun u q=>by
   cases hf:u.fr <;> simp [adsOf,hf]
  rw [eqa t r,eqa t' r'] at ha;rw [eqa t r] at hf;have lo:∀ a ∈ adsOf r,s+t.k<=a:=fun a ha=>by
   obtain ⟨u,hu,_,rfl⟩:=mem_adsOf.1 ha;exact (h3.mem hu).1
  have lo':∀ a ∈ adsOf r',s+t'.k<=a:=fun a ha=>by
   obtain ⟨u,hu,_,rfl⟩:=mem_adsOf.1 ha;exact (h3'.mem hu).1
  cases hb:t.fr with
  | false=>
   cases hb':t'.fr with
   | false=>
    simp only [hb,hb',Bool.false_eq_true,if_false,List.singleton_append,List.cons.injEq] at ha hf;have k1:=hk t (by simp) hb;have k2:=hk' t' (by simp) hb';have ft:=hf t.a (by simp);rw [ha.1] at ft k1;rw [ft,<- k2] at k1;rw [k1] at h3;have ih:=lay_same h3 h3' hs.tail hs'.tail (fun u hu=>hk u (by simp [hu])) (fun u hu=>hk' u (by simp [hu])) ha.2 (fun a h=>hf a (by simp [h]));rw [ih]
    congr 1
    obtain ⟨a,k,fr⟩:=t;obtain ⟨a',k',fr'⟩:=t';simp only at *;subst hb hb' k1;rw [ha.1]
   | true=>
    simp only [hb,hb',Bool.false_eq_true,if_false,if_true,List.singleton_append,List.nil_append] at ha;have:=lo' t.a (by rw [<- ha];simp);omega
  | true=>
   cases hb':t'.fr with
   | false=>
    simp only [hb,hb',Bool.false_eq_true,if_false,if_true,List.singleton_append,List.nil_append] at ha;have:=lo t'.a (by rw [ha];simp);omega
   | true=>
    simp only [hb,hb',if_true,List.nil_append] at ha hf;have key:t.k=t'.k:=by
     cases r with
     | nil=>
      have e:s+t.k=n:=h3
      cases r' with
      | nil=>
       have e':s+t'.k=n:=h3';omega
      | cons u' q'=>
       have hu:u'.fr=false:=by
        cases hq:u'.fr with
        | false=>rfl
        | true=>exact absurd ⟨hb',hq⟩ hs'.1
       rw [eqa u' q'] at ha;simp [hu,adsOf] at ha
     | cons u q=>
      have hu:u.fr=false:=by
       cases hq:u.fr with
       | false=>rfl
       | true=>exact absurd ⟨hb,hq⟩ hs.1
      cases r' with
      | nil=>
       rw [eqa u q] at ha;simp [hu,adsOf] at ha
      | cons u' q'=>
       have hu':u'.fr=false:=by
        cases hq:u'.fr with
        | false=>rfl
        | true=>exact absurd ⟨hb',hq⟩ hs'.1
       rw [eqa u q,eqa u' q'] at ha;simp only [hu,hu',Bool.false_eq_true,if_false,List.singleton_append,List.cons.injEq] at ha;have:=h3.1;have:=h3'.1;omega
    rw [key] at h3;have ih:=lay_same h3 h3' hs.tail hs'.tail (fun u hu=>hk u (by simp [hu])) (fun u hu=>hk' u (by simp [hu])) ha hf;rw [ih]
    congr 1
    obtain ⟨a,k,fr⟩:=t;obtain ⟨a',k',fr'⟩:=t';simp only at *;subst hb hb' key;rw [e1,e1']
theorem path_same {f g:Nat->Int}:∀ {r:List Nat} {l l':Nat},Path f l r->Path g l' r->f l=g l' /\ ∀ a ∈ r,f (a+3)=g (a+3)
 | [],l,l',h,h'=>by
  have e:f l=0:=h;have e':g l'=0:=h';exact ⟨by omega,by simp⟩
 | b :: r,l,l',h,h'=>by
  obtain ⟨h1,_,h3⟩:=h;obtain ⟨h1',_,h3'⟩:=h';obtain ⟨k1,k2⟩:=path_same h3 h3';refine ⟨by omega,fun a ha=>?_⟩
  rcases List.mem_cons.1 ha with rfl | ha
  . exact k1
  exact k2 a ha
theorem Lay.cover:∀ {s n j:Nat} {L:List Tl},Lay s L n->s<=j->j < n -> ∃ t ∈ L,t.a<=j/\j < t.a+t.k
 | s,n,j,[],h,h1,h2=>by
  have e:s=n:=h;omega
 | s,n,j,t :: r,h,h1,h2=>by
  obtain ⟨e,hk,hr⟩:=h
  by_cases hj:j < s+t.k
  . exact ⟨t,by simp,by omega,by omega⟩
  obtain ⟨u,hu,k⟩:=hr.cover (by omega) h2;exact ⟨u,by simp [hu],k⟩
theorem cnt_eq {f g:Nat->Int} {z:List Int} {a:Nat}:∀ {Src:List Nat},(∀ b ∈ Src,kz f z b=kz g z b)->cnt f z a Src=cnt g z a Src
 | [],_=>rfl
 | b :: r,h=>by
  unfold cnt;rw [h b (by simp),cnt_eq fun c hc=>h c (by simp [hc])]
end Hp
namespace Hp
theorem ow_set {v:Int} (h:i < W.length):ow (W.set i v) j=if j=i then v else ow W j:=by
 obtain ⟨W',h1,_,h3⟩:=wr_ow v h
 unfold wr at h1
 rw [if_pos h] at h1
 cases h1
 exact h3 j
theorem ow_set_ne {v:Int} (h:i < W.length) (hn:j ≠ i):ow (W.set i v) j=ow W j:=by rw [ow_set h,if_neg hn]
theorem ow_set_eq {v:Int} (h:i < W.length):ow (W.set i v) i=v:=by rw [ow_set h,if_pos rfl]
def Loose (L:List Tl) (j:Nat):Prop:=j=16 \/ ∃ t ∈ L,t.fr=true/\t.a+2<=j/\j < t.a+t.k
structure Near (L:List Tl) (W V:List Int):Prop where
 len:W.length=V.length
 eq:∀ j,¬ Loose L j->ow W j=ow V j
structure Linking (L P:List Tl) (a:Nat) (W V:List Int):Prop extends Near L W V where
 done:∀ j,Loose L j->j < a->j ≠ lastL 16 P->ow W j=ow V j
structure Zeroing (L:List Tl) (t:Tl) (i:Nat) (W V:List Int):Prop extends Near L W V where
 done:∀ j,Loose L j->j < i->j ≠ t.a+2->ow W j=ow V j
section
variable {V:List Int} {z:List Int} {L P Q:List Tl} {n a:Nat} {W:List Int}
theorem loose_in (hl:Lay 17 L n) {t:Tl} (ht:t ∈ L) (h:Loose L j) (h1:t.a<=j) (h2:j < t.a+t.k):t.fr=true/\t.a+2<=j:=by
 have m:=hl.mem ht
 rcases h with rfl | ⟨u,hu,hf,u1,u2⟩
 . omega
 rcases hl.sep ht hu with e | h | h
 . subst e;exact ⟨hf,u1⟩
 . omega
 omega
theorem Near.part (h:Near L W V) (hl:Lay 17 L n) {t:Tl} (ht:t ∈ L):ow W t.a=ow V t.a/\ow W (t.a+1)=ow V (t.a+1):=by
 have m:=hl.mem ht
 exact ⟨h.eq _ fun hj=>by have:=(loose_in hl ht hj (by omega) (by omega)).2;omega,h.eq _ fun hj=>by have:=(loose_in hl ht hj (by omega) (by omega)).2;omega⟩
theorem Linking.start (h:Near L W V) (hl:Lay 17 L n):Linking L [] 17 W V:=
 { h with
   done:=fun j hj h17 hne=>by
    rcases hj with rfl | ⟨u,hu,hf,u1,u2⟩
    . exact absurd rfl hne
    . have:=hl.mem hu;omega }
theorem Linking.cell (h:Linking L P a W V) (hl:Lay 17 L n) {t:Tl} (ht:t ∈ L) (ha:t.a=a) (hf:t.fr=false):Linking L (P ++ [t]) (a+t.k) W V:=
 { h.toNear with
   done:=fun j hj h1 hne=>by
    have e:lastL 16 (P ++ [t])=lastL 16 P:=by
     rw [lastL_app];simp [lastL,hf]
    rw [e] at hne
    by_cases hja:j < a
    . exact h.done j hj hja hne
    . have:=loose_in hl ht hj (by omega) (by omega);rw [hf] at this
      cases this.1 }
theorem Linking.free (h:Linking L P a W V) {t:Tl} (hL:L=P ++ t :: Q) (hp:Parts (ow V) z L V.length) (ha:t.a=a) (hf:t.fr=true):lastL 16 P < W.length/\Zeroing L t (a+3) (W.set (lastL 16 P) (a:Int)) V:=by
 have ht:t ∈ L:=by rw [hL];simp
 have m:=hp.lay.mem ht
 have hlay:=hp.lay
 rw [hL] at hlay
 obtain ⟨q1,q2,q3⟩:=hlay.parts
 have g:=lastL_lt q1 (show 16 < 17 by omega)
 have hlk:=hp.links
 rw [hL] at hlk
 have k2:=(Links.app.1 hlk).2
 unfold Links at k2
 rw [hf] at k2
 simp only [if_true] at k2
 have hlen:=h.len
 have hlt:lastL 16 P < W.length:=by omega
 have hloose:Loose L (lastL 16 P):=by
  rcases @lastL_is 16 P with e | ⟨u,hu,huf,e⟩
  . exact .inl e
  have:=q1.mem hu;exact .inr ⟨u,by rw [hL];simp [hu],huf,by omega,by omega⟩
 refine ⟨hlt,⟨⟨by simpa using hlen,fun j hj=>?_⟩,fun j hj h1 h2=>?_⟩⟩
 . have hne:j ≠ lastL 16 P:=fun e=>hj (by rw [e];exact hloose)
   rw [ow_set_ne hlt hne];exact h.eq j hj
 by_cases e:j=lastL 16 P
 . rw [e,ow_set_eq hlt,k2.1,ha]
 rw [ow_set_ne hlt e]
 by_cases hja:j < a
 . exact h.done j hj hja e
 have:=loose_in hp.lay ht hj (by omega) (by omega)
 omega
theorem Zeroing.step {t:Tl} (h:Zeroing L t i W V) (hp:Parts (ow V) z L V.length) (ht:t ∈ L) (hf:t.fr=true) (h1:t.a+3<=i) (h2:i < t.a+t.k):i < W.length/\Zeroing L t (i+1) (W.set i 0) V:=by
 have m:=hp.lay.mem ht
 have hlen:=h.len
 have hlt:i < W.length:=by omega
 have hloose:Loose L i:=.inr ⟨t,ht,hf,by omega,by omega⟩
 refine ⟨hlt,⟨⟨by simpa using hlen,fun j hj=>?_⟩,fun j hj k1 k2=>?_⟩⟩
 . have hne:j ≠ i:=fun e=>hj (by rw [e];exact hloose)
   rw [ow_set_ne hlt hne];exact h.eq j hj
 by_cases e:j=i
 . rw [e,ow_set_eq hlt,((hp.ok t ht).free hf).2.2 i h1 h2]
 rw [ow_set_ne hlt e]
 exact h.done j hj (by omega) k2
theorem Zeroing.fin {t:Tl} (h:Zeroing L t (t.a+t.k) W V) (hf:t.fr=true):Linking L (P ++ [t]) (t.a+t.k) W V:=
 { h.toNear with
   done:=fun j hj h1 hne=>by
    have e:lastL 16 (P ++ [t])=t.a+2:=by
     rw [lastL_app];simp [lastL,hf]
    rw [e] at hne;exact h.done j hj h1 hne }
theorem Linking.finish (h:Linking L L V.length W V) (hp:Parts (ow V) z L V.length) (h20:17<=V.length):lastL 16 L < W.length/\W.set (lastL 16 L) 0=V:=by
 have hlen:=h.len
 have g:=lastL_lt hp.lay (show 16 < 17 by omega)
 have hlk:=hp.links
 rw [show L=L ++ [] by simp] at hlk
 have k2:=(Links.app.1 hlk).2
 have k2:ow V (lastL 16 L)=0:=k2
 have hlt:lastL 16 L < W.length:=by omega
 refine ⟨hlt,ext_ow (by simpa using hlen) fun j hj=>?_⟩
 by_cases e:j=lastL 16 L
 . rw [e,ow_set_eq hlt,k2]
 rw [ow_set_ne hlt e]
 by_cases hl:Loose L j
 . exact h.done j hl hj e
 exact h.eq j hl
end
theorem near_of {ch:Nat->List Nat} (h:Wf S B L ch) (hl:W.length=S.words.length) (hh:∀ c,c < 16->ow W c=ow S.words c)
    (hc:∀ a ∈ S.taken,∀ i,i < wz S.sizes (ow S.words a)->ow W (a+i)=ow S.words (a+i)) (hf:∀ t ∈ L,t.fr=true->ow W t.a=0/\ow W (t.a+1)=t.k):Near L W S.words:=by
  refine ⟨hl,fun j hj=>?_⟩
  by_cases h16:j < 16
  . exact hh j h16
  by_cases e16:j=16
  . exact absurd (.inl e16) hj
  by_cases hn:j < S.words.length
  . obtain ⟨t,htL,j1,j2⟩:=h.parts.lay.cover (j:=j) (by omega) hn
    cases hfr:t.fr with
    | true=>
     obtain ⟨a1,a2,_⟩:=(h.parts.ok t htL).free hfr;obtain ⟨b1,b2⟩:=hf t htL hfr
     by_cases e0:j=t.a
     . rw [e0,b1,a1]
     by_cases e1:j=t.a+1
     . rw [e1,b2,a2]
     exact absurd (.inr ⟨t,htL,hfr,by omega,j2⟩) hj
    | false=>
     have ha:t.a ∈ S.taken:=by
      rw [h.taken];exact mem_adsOf.2 ⟨t,htL,hfr,rfl⟩
     have hk:=((h.parts.ok t htL).cell hfr).2;have:=hc t.a ha (j-t.a) (by omega);rw [show t.a+(j-t.a)=j by omega] at this;exact this
  rw [ow_out (by omega),ow_out (by omega)]
end Hp
namespace Hp
structure Took (S:Hs) (a k wide:Nat) (W:List Int):Prop where
 len:W.length=S.words.length
 rest:wide < k->ow W (a+wide)=0/\ow W (a+wide+1)=(k:Int)-(wide:Int)
 other:∀ j,(j < a \/ a+k<=j)->ow W j=ow S.words j
structure Adding (S:Hs) (t:Int) (fs:List Int) (a k i:Nat) (W:List Int):Prop where
 len:W.length=S.words.length
 tag:ow W a=t
 one:ow W (a+1)=0
 two:ow W (a+2)=0
 three:ow W (a+3)=ow S.words (cz t fs)
 head:ow W (cz t fs)=(a:Int)
 fld:∀ j,j < i->ow W (a+4+j)=fs.getD j 0
 uses:∀ b ∈ S.taken,ow W (b+1)=ow S.words (b+1)+((((ksOf t fs).take i).count (b:Int):Nat):Int)
 rest:4+fs.length < k->ow W (a+(4+fs.length))=0/\ow W (a+(4+fs.length)+1)=(k:Int)-((4+fs.length:Nat):Int)
 other:∀ j,(j < a \/ a+k<=j)->j ≠ cz t fs->(∀ b ∈ S.taken,j ≠ b+1)->ow W j=ow S.words j
section
variable {S:Hs} {B:Nat} {L:List Tl} {ch:Nat->List Nat} {t:Int} {fs:List Int} {a k:Nat} {W:List Int}
theorem New.wide (h:Wf S B L ch) (hn:New S t fs):wz S.sizes t=4+fs.length/\1<=fs.length/\fs.length<=12:=by
 have h1:=wz_ok h.fr.toFr hn.tag
 have:=hn.len
 omega
theorem Fits.le {w:Nat} {u:Tl} (h:Fits w u):w<=u.k/\(w < u.k->w+3<=u.k):=by
 rcases h with h | h <;> omega
theorem Took.adding (h:Wf S B L ch) (hn:New S t fs) (hu:(⟨a,k,true⟩:Tl) ∈ L) (hk:Fits (4+fs.length) ⟨a,k,true⟩) (T:Took S a k (4+fs.length) W) :
    Adding S t fs a k 0 (((((W.set a t).set (a+1) 0).set (a+2) 0).set (a+3) (ow W (cz t fs))).set (cz t fs) (a:Int)):=by
  have hm:=h.parts.lay.mem hu;have hm1:17<=a:=hm.1;have hm2:a+k<=S.words.length:=hm.2.1;have hw:=hn.wide h;have hkk:=hk.le;have hk1:4+fs.length<=k:=hkk.1;have hk2:4+fs.length < k->4+fs.length+3<=k:=hkk.2
  have hc:=cz_lt t fs;have hl:=T.len;have e:∀ j,ow (((((W.set a t).set (a+1) 0).set (a+2) 0).set (a+3) (ow W (cz t fs))).set (cz t fs) (a:Int)) j=if j=cz t fs then (a:Int) else if j=a+3 then ow W (cz t fs) else if j=a+2 then 0 else if j=a+1 then 0 else if j=a then t else ow W j:=fun j=>by
   rw [ow_set (by simp;omega),ow_set (by simp;omega),ow_set (by simp;omega),ow_set (by simp;omega),ow_set (by omega)]
  refine ⟨by simp;exact hl, ?_, ?_, ?_, ?_, ?_,fun j hj=>absurd hj (Nat.not_lt_zero _),fun b hb=>?_,fun hk3=>?_,fun j h1 h2 h3=>?_⟩
  . rw [e,if_neg (by omega),if_neg (by omega),if_neg (by omega),if_neg (by omega),if_pos rfl]
  . rw [e,if_neg (by omega),if_neg (by omega),if_neg (by omega),if_pos rfl]
  . rw [e,if_neg (by omega),if_neg (by omega),if_pos rfl]
  . rw [e,if_neg (by omega),if_pos rfl,T.other _ (by omega)]
  . rw [e,if_pos rfl]
  . have hp:=h.part hb;have ha:b+wz S.sizes (ow S.words b)<=a \/ a+k<=b:=h.apart hb hu rfl;rw [e,if_neg (by omega),if_neg (by omega),if_neg (by omega),if_neg (by omega),if_neg (by omega),T.other _ (by omega)];simp
  . have:=hk2 hk3;rw [e,if_neg (by omega),if_neg (by omega),if_neg (by omega),if_neg (by omega),if_neg (by omega),e,if_neg (by omega),if_neg (by omega),if_neg (by omega),if_neg (by omega),if_neg (by omega)];exact T.rest hk3
  rw [e,if_neg h2,if_neg (by omega),if_neg (by omega),if_neg (by omega),if_neg (by omega),T.other _ h1]
theorem Adding.stepEnd (h:Wf S B L ch) (hn:New S t fs) (hu:(⟨a,k,true⟩:Tl) ∈ L) (hk:Fits (4+fs.length) ⟨a,k,true⟩) (hi:i < fs.length) (he:isEnd t=true) (A:Adding S t fs a k i W) :
    a+4+i < W.length/\Adding S t fs a k (i+1) (W.set (a+4+i) (fs.getD i 0)):=by
  have hm:=h.parts.lay.mem hu;have hm1:17<=a:=hm.1;have hm2:a+k<=S.words.length:=hm.2.1;have hkk:=hk.le;have hk1:4+fs.length<=k:=hkk.1;have hc:=cz_lt t fs;have hl:=A.len;have hlt:a+4+i < W.length:=by omega
  refine ⟨hlt,by simpa using hl, ?_, ?_, ?_, ?_, ?_,fun j hj=>?_,fun b hb=>?_,fun hk3=>?_,fun j h1 h2 h3=>?_⟩
  . rw [ow_set_ne hlt (by omega)];exact A.tag
  . rw [ow_set_ne hlt (by omega)];exact A.one
  . rw [ow_set_ne hlt (by omega)];exact A.two
  . rw [ow_set_ne hlt (by omega)];exact A.three
  . rw [ow_set_ne hlt (by omega)];exact A.head
  . by_cases e:j=i
    . subst e;rw [ow_set_eq hlt]
    rw [ow_set_ne hlt (by omega)];exact A.fld j (by omega)
  . have hp:=h.part hb;have ha:b+wz S.sizes (ow S.words b)<=a \/ a+k<=b:=h.apart hb hu rfl;rw [ow_set_ne hlt (by omega),A.uses b hb];simp [ksOf,he]
  . rw [ow_set_ne hlt (by omega),ow_set_ne hlt (by omega)];exact A.rest hk3
  rw [ow_set_ne hlt (by omega)];exact A.other j h1 h2 h3
theorem Adding.stepNode (h:Wf S B L ch) (hn:New S t fs) (hu:(⟨a,k,true⟩:Tl) ∈ L) (hk:Fits (4+fs.length) ⟨a,k,true⟩) (hi:i < fs.length) (he:isEnd t=false) (A:Adding S t fs a k i W) (hb:b ∈ S.taken) (hf:fs.getD i 0=(b:Int)) :
    a+4+i < W.length/\b+1 < W.length/\ow (W.set (a+4+i) (b:Int)) (b+1)=ow W (b+1)/\Adding S t fs a k (i+1) ((W.set (a+4+i) (b:Int)).set (b+1) (ow W (b+1)+1)):=by
  have hm:=h.parts.lay.mem hu;have hm1:17<=a:=hm.1;have hm2:a+k<=S.words.length:=hm.2.1;have hkk:=hk.le;have hk1:4+fs.length<=k:=hkk.1;have hk2:4+fs.length < k->4+fs.length+3<=k:=hkk.2
  have hc:=cz_lt t fs;have hl:=A.len;have hlt:a+4+i < W.length:=by omega
  have hpb:=h.part hb;have hab:b+wz S.sizes (ow S.words b)<=a \/ a+k<=b:=h.apart hb hu rfl;have hlb:b+1 < W.length:=by omega
  have hlb':b+1 < (W.set (a+4+i) (b:Int)).length:=by simpa using hlb
  have X:∀ j,j ≠ a+4+i->j ≠ b+1->ow ((W.set (a+4+i) (b:Int)).set (b+1) (ow W (b+1)+1)) j=ow W j:=fun j h1 h2=>by
   rw [ow_set_ne hlb' h2,ow_set_ne hlt h1]
  refine ⟨hlt,hlb,by rw [ow_set_ne hlt (by omega)],by simpa using hl, ?_, ?_, ?_, ?_, ?_,fun j hj=>?_,fun c hc'=>?_,fun hk3=>?_,fun j h1 h2 h3=>?_⟩
  . rw [X _ (by omega) (by omega)];exact A.tag
  . rw [X _ (by omega) (by omega)];exact A.one
  . rw [X _ (by omega) (by omega)];exact A.two
  . rw [X _ (by omega) (by omega)];exact A.three
  . rw [X _ (by omega) (by omega)];exact A.head
  . by_cases e:j=i
    . subst e;rw [ow_set_ne hlb' (by omega),ow_set_eq hlt,hf]
    rw [X _ (by omega) (by omega)];exact A.fld j (by omega)
  . have e1:ksOf t fs=fs:=by simp [ksOf,he]
    have hu':=A.uses c hc';rw [e1] at hu' ⊢;have hgi:fs[i]? = some (b:Int):=by
     rw [List.getD_eq_getElem?_getD,List.getElem?_eq_getElem hi] at hf;rw [List.getElem?_eq_getElem hi]
     simpa using hf
    have ec:(fs.take (i+1)).count (c:Int)=(fs.take i).count (c:Int)+(if b=c then 1 else 0):=by
     rw [List.take_add_one,hgi,List.count_append]
     congr 1
     by_cases e:b=c
     . subst e;simp
     have:((b:Int) == (c:Int))=false:=by simp;omega
     simp [List.count_cons,this,e]
    rw [ec];have hpc:=h.part hc';have hac:c+wz S.sizes (ow S.words c)<=a \/ a+k<=c:=h.apart hc' hu rfl
    by_cases e:c=b
    . subst e;rw [ow_set_eq hlb',if_pos rfl,hu']
      push_cast
      omega
    rw [X _ (by omega) (by omega),if_neg (fun q=>e q.symm),hu'];simp
  . have:=hk2 hk3;rw [X _ (by omega) (by omega),X _ (by omega) (by omega)];exact A.rest hk3
  rw [X _ (by omega) (h3 b hb)];exact A.other j h1 h2 h3
set_option maxHeartbeats 1000000 in
theorem Adding.near {P Q:List Tl} (h:Wf S B (P ++ ⟨a,k,true⟩ :: Q) ch) (hn:New S t fs) (hk:Fits (4+fs.length) ⟨a,k,true⟩) (A:Adding S t fs a k fs.length W) (p:Put S S' t fs a)
    (h':Wf S' B (P ++ ⟨a,wz S.sizes t,false⟩ :: ((if k=wz S.sizes t then [] else [⟨a+wz S.sizes t,k-wz S.sizes t,true⟩]) ++ Q)) (fun c=>if c=cz t fs then a :: ch c else ch c)) :
    Near (P ++ ⟨a,wz S.sizes t,false⟩ :: ((if k=wz S.sizes t then [] else [⟨a+wz S.sizes t,k-wz S.sizes t,true⟩]) ++ Q)) W S'.words:=by
  have hu:(⟨a,k,true⟩:Tl) ∈ P ++ ⟨a,k,true⟩ :: Q:=by simp
  have hm:=h.parts.lay.mem hu;have hm1:17<=a:=hm.1;have hm2:a+k<=S.words.length:=hm.2.1;have hkk:=hk.le;have hk1:4+fs.length<=k:=hkk.1;have hk2:4+fs.length < k->4+fs.length+3<=k:=hkk.2
  have hw:=hn.wide h;have hc:=cz_lt t fs;have PS:∀ c,c < 16->(c=cz t fs \/ ow S'.words c=ow S.words c) /\ ∀ x ∈ ch c,ow S'.words (x+3)=ow S.words (x+3):=fun c hc16=>by
   have p1:=h'.chains.path c hc16;have p0:=h.chains.path c hc16
   by_cases e:c=cz t fs
   . simp only [if_pos e] at p1;exact ⟨.inl e,(path_same p1.2.2 p0).2⟩
   simp only [if_neg e] at p1;exact ⟨.inr (path_same p1 p0).1,(path_same p1 p0).2⟩
  have PA:ow S'.words (cz t fs)=(a:Int)/\ow S'.words (a+3)=ow S.words (cz t fs):=by
   have p1:=h'.chains.path _ hc;have p0:=h.chains.path _ hc;simp only [if_true] at p1;exact ⟨p1.1,(path_same p1.2.2 p0).1⟩
  have MB:∀ b,b ∈ S'.taken ↔ b=a \/ b ∈ S.taken:=fun b=>by rw [p.taken];exact mem_insert
  refine near_of h' (A.len.trans p.len.symm) (fun c hc16=>?_) (fun b hb i hi=>?_) (fun u hu hf=>?_)
  . by_cases e:c=cz t fs
    . rw [e,A.head,PA.1]
    rw [A.other c (by omega) e (fun b hb=>by have:=h.part hb;omega)]
    rcases (PS c hc16).1 with q | q
    . exact absurd q e
    exact q.symm
  . rw [p.sizes] at hi
    rcases (MB b).1 hb with rfl | hb0
    . rw [p.tag,hw.1] at hi
      by_cases i0:i=0
      . subst i0;rw [Nat.add_zero,A.tag,p.tag]
      by_cases i1:i=1
      . subst i1;rw [A.one,p.one]
      by_cases i2:i=2
      . subst i2;rw [A.two,p.two]
      by_cases i3:i=3
      . subst i3;rw [A.three,PA.2]
      have e:=A.fld (i-4) (by omega);rw [show b+4+(i-4)=b+i by omega] at e;rw [e];have hfz:=p.fs;unfold fz at hfz;rw [p.tag,hw.1] at hfz;have hg:(cut (ow S'.words) (b+4) (4+fs.length-4))[i-4]? = some (ow S'.words (b+4+(i-4))):=cut_get (by omega);rw [hfz,show b+4+(i-4)=b+i by omega] at hg;rw [List.getD_eq_getElem?_getD,hg];rfl
    have hp:=h.part hb0;have ha:b+wz S.sizes (ow S.words b)<=a \/ a+k<=b:=h.apart hb0 hu rfl;have et:=(p.old b hb0).1;rw [et] at hi;have far:∀ i,i < wz S.sizes (ow S.words b)->i ≠ 1->ow W (b+i)=ow S.words (b+i):=fun i hi h1=>A.other _ (by omega) (by omega) fun c hc'=>h.ne hb0 hc' hi (by have:=h.part hc';omega) (.inr h1)
    by_cases i0:i=0
    . subst i0;rw [far 0 (by omega) (by omega)];exact et.symm
    by_cases i1:i=1
    . subst i1;have u1:=h.uses b hb0;have u2:=h'.uses b hb;rw [p.sizes,p.taken,cnt_perm (perm_insert p.new)] at u2;have u3:cnt (ow S'.words) S.sizes b (a :: S.taken)=(kz (ow S'.words) S.sizes a).count (b:Int)+cnt (ow S'.words) S.sizes b S.taken:=rfl;have u4:cnt (ow S'.words) S.sizes b S.taken=cnt (ow S.words) S.sizes b S.taken:=cnt_eq fun c hc'=>p.old.kz_ hc'
      have u5:kz (ow S'.words) S.sizes a=ksOf t fs:=by
       unfold kz ksOf;rw [p.tag,p.fs]
      rw [u3,u4,u5] at u2;rw [A.uses b hb0,u2,u1];have:(ksOf t fs).take fs.length=ksOf t fs:=by
       apply List.take_of_length_le;unfold ksOf
       split <;> simp
      rw [this]
      push_cast
      omega
    by_cases i2:i=2
    . subst i2;rw [far 2 (by omega) (by omega),p.hold b hb0]
    by_cases i3:i=3
    . subst i3;rw [far 3 (by omega) (by omega)];exact ((PS _ (cz_lt _ _)).2 b ((h.chains.mem _ (cz_lt (ow S.words b) (fz (ow S.words) S.sizes b)) b).2 ⟨hb0,rfl⟩)).symm
    rw [far i hi i1];have:=(p.old b hb0).2 (i-4) (by omega);rw [show b+4+(i-4)=b+i by omega] at this;exact this.symm
  have hpar:=h.parts.lay.parts;have old:∀ v,v ∈ P ++ ⟨a,k,true⟩ :: Q->v.fr=true->(v.a+v.k<=a \/ a+k<=v.a)->ow W v.a=0/\ow W (v.a+1)=v.k:=fun v hv hvf hd=>by
   have mv:=h.parts.lay.mem hv;have ok:=(h.parts.ok v hv).free hvf;rw [A.other v.a (by omega) (by omega) (fun b hb=>?_),A.other (v.a+1) (by omega) (by omega) (fun b hb=>?_)]
   . exact ⟨ok.1,ok.2.1⟩
   . have:=h.apart hb hv hvf;have:=h.part hb;omega
   have:=h.apart hb hv hvf;have:=h.part hb;omega
  rw [List.mem_append,List.mem_cons,List.mem_append] at hu
  rcases hu with hu | rfl | hu | hu
  . exact old u (by simp [hu]) hf (.inl (hpar.1.mem hu).2.1)
  . cases hf
  . split at hu
    . cases hu
    rename_i hne;rw [List.mem_singleton] at hu;subst hu;rw [hw.1] at hne ⊢;have:=A.rest (by omega);refine ⟨this.1,this.2.trans ?_⟩;show (k:Int)-((4+fs.length:Nat):Int)=((k-(4+fs.length):Nat):Int);omega
  exact old u (by simp [hu]) hf (.inr (hpar.2.2.mem hu).1)
end
end Hp
namespace Hp
structure Merging (S:Hs) (P Q:List Tl) (a:Nat) (W:List Int):Prop where
 len:W.length=S.words.length
 lay1:Lay 17 P a
 lay2:Lay a Q S.words.length
 sep:Sep P
 gap:¬ (ltF P=true/\hdF Q=true)
 ads:adsOf (P ++ Q)=S.taken
 free:∀ t ∈ P ++ Q,t.fr=true->ow W t.a=0/\ow W (t.a+1)=t.k
 cell:∀ t ∈ P ++ Q,t.fr=false->t.k=wz S.sizes (ow S.words t.a)
 heads:∀ c,c < 16->ow W c=ow S.words c
 cells:∀ b ∈ S.taken,∀ i,i < wz S.sizes (ow S.words b)->ow W (b+i)=ow S.words (b+i)
section
variable {S:Hs} {B:Nat} {L P Q:List Tl} {ch:Nat->List Nat} {a:Nat} {W:List Int}
theorem Merging.pass {t:Tl} (m:Merging S P (t :: Q) a W) (h:¬ (t.fr=true/\hdF Q=true)):Merging S (P ++ [t]) Q (a+t.k) W:=by
 obtain ⟨e,h1,h2⟩:=m.lay2
 have e2:(P ++ [t]) ++ Q=P ++ t :: Q:=by simp
 refine ⟨m.len,Lay.app.2 ⟨a,m.lay1,e,h1,rfl⟩,h2,Sep.app.2 ⟨m.sep,trivial, ?_⟩, ?_, ?_, ?_, ?_,m.heads,m.cells⟩
 . have:=m.gap
   simpa [hdF] using this
 . rw [ltF_snoc];exact h
 . rw [e2];exact m.ads
 . rw [e2];exact m.free
 rw [e2];exact m.cell
theorem Merging.join (h:Wf S B L ch) {t u:Tl} (m:Merging S P (t :: u :: Q) a W) (ht:t.fr=true) (hu:u.fr=true):a+1 < W.length/\ow W (a+1)=t.k/\ow W (a+t.k)=0/\ow W (a+t.k+1)=u.k/\Merging S P (⟨a,t.k+u.k,true⟩ :: Q) a (W.set (a+1) ((t.k:Int)+(u.k:Int))):=by
 obtain ⟨e,h1,e',h1',h2⟩:=m.lay2
 have h2l:=h2.le
 have hlo:=m.lay1.le
 have hlen:=m.len
 have hlt:a+1 < W.length:=by omega
 have ft:=m.free t (by simp) ht
 have fu:=m.free u (by simp) hu
 rw [e] at ft
 rw [e'] at fu
 have hads:adsOf (P ++ t :: u :: Q)=adsOf (P ++ ⟨a,t.k+u.k,true⟩ :: Q):=by
  rw [adsOf_app,adsOf_app]
  congr 1
  simp [adsOf,ht,hu]
 -- no cell has the word a+1
 have hcell:∀ b ∈ S.taken,∃ v ∈ P ++ t :: u :: Q,v.fr=false/\v.a=b/\(v.a+v.k<=a \/ a+t.k+u.k<=v.a):=fun b hb=>by
  rw [<- m.ads] at hb;obtain ⟨v,hv,hvf,hva⟩:=mem_adsOf.1 hb;refine ⟨v,hv,hvf,hva, ?_⟩;rw [List.mem_append,List.mem_cons,List.mem_cons] at hv
  rcases hv with hv | rfl | rfl | hv
  . exact .inl (m.lay1.mem hv).2.1
  . rw [ht] at hvf;cases hvf
  . rw [hu] at hvf;cases hvf
  exact .inr (h2.mem hv).1
 refine ⟨hlt,ft.2,fu.1,fu.2,by simpa using hlen,m.lay1,⟨rfl,by show 3<=t.k+u.k;omega,by show Lay (a+(t.k+u.k)) Q _;rw [<- Nat.add_assoc];exact h2⟩,m.sep, ?_,by rw [<- hads];exact m.ads,fun v hv hvf=>?_,fun v hv hvf=>?_,fun c hc=>?_,fun b hb i hi=>?_⟩
 . have:=m.gap
   simpa [hdF,ht] using this
 . rw [List.mem_append,List.mem_cons] at hv
   rcases hv with hv | rfl | hv
   . have q:=m.lay1.mem hv;rw [ow_set_ne hlt (by omega),ow_set_ne hlt (by omega)];exact m.free v (by simp [hv]) hvf
   . show ow (W.set (a+1) _) a=0/\ow (W.set (a+1) _) (a+1)=((t.k+u.k:Nat):Int)
     rw [ow_set_ne hlt (by omega),ow_set_eq hlt];exact ⟨ft.1,by push_cast;rfl⟩
   have q:=h2.mem hv;rw [ow_set_ne hlt (by omega),ow_set_ne hlt (by omega)];exact m.free v (by simp [hv]) hvf
 . rw [List.mem_append,List.mem_cons] at hv
   rcases hv with hv | rfl | hv
   . exact m.cell v (by simp [hv]) hvf
   . cases hvf
   exact m.cell v (by simp [hv]) hvf
 . rw [ow_set_ne hlt (by omega)];exact m.heads c hc
 obtain ⟨v,hv,hvf,hva,hd⟩:=hcell b hb
 have hk:=m.cell v hv hvf
 rw [hva] at hk hd
 rw [ow_set_ne hlt (by omega)]
 exact m.cells b hb i hi
theorem Merging.near (h:Wf S B L ch) (m:Merging S P [] a W):a=S.words.length/\P=L/\Near L W S.words:=by
 have ea:a=S.words.length:=m.lay2
 have hl:=m.lay1
 rw [ea] at hl
 have hads:adsOf P=S.taken:=by simpa using m.ads
 have eL:P=L:=lay_same (f:=ow S.words) (g:=ow S.words) (z:=S.sizes) hl h.parts.lay m.sep h.parts.sep (fun t ht hf=>m.cell t (by simp [ht]) hf) (fun t ht hf=>((h.parts.ok t ht).cell hf).2) (by rw [hads,h.taken]) (fun _ _=>rfl)
 refine ⟨ea,eL,near_of h m.len m.heads m.cells fun t ht hf=>m.free t (by simp [eL,ht]) hf⟩
end
def mk (D:List Nat) (t:Tl):Tl:={ t with fr:=t.fr || D.contains t.a }
theorem lay_mk (D:List Nat):∀ {s n:Nat} {L:List Tl},Lay s L n->Lay s (L.map (mk D)) n
 | _,_,[],h=>h
 | _,_,t :: r,h=>⟨h.1,h.2.1,lay_mk D h.2.2⟩
theorem ads_mk (D:List Nat):∀ L:List Tl,adsOf (L.map (mk D))=(adsOf L).filter fun a=>!D.contains a
 | []=>rfl
 | t :: r=>by
  have ih:=ads_mk D r;unfold adsOf at ih ⊢;rw [List.map_cons,List.filter_cons,List.filter_cons]
  cases hf:t.fr with
  | true=>simpa [mk,hf] using ih
  | false=>
   by_cases hd:D.contains t.a=true
   . simp only [mk,hf,hd,Bool.false_or,Bool.not_true,Bool.false_eq_true,if_false,Bool.not_false,if_true,List.map_cons,List.filter_cons] at ih ⊢;exact ih
   have hd:D.contains t.a=false:=by simpa using hd
   simp only [mk,hf,hd,Bool.false_or,Bool.not_false,if_true,List.map_cons,List.filter_cons] at ih ⊢;rw [ih]
structure Marked (S:Hs) (W2:List Int) (D:List Nat) (W:List Int):Prop where
 len:W.length=W2.length
 dead:∀ b ∈ D,ow W b=0/\ow W (b+1)=wz S.sizes (ow S.words b)
 other:∀ j,(∀ b ∈ D,j ≠ b/\j ≠ b+1)->ow W j=ow W2 j
theorem Marked.start (S:Hs) (W2:List Int):Marked S W2 [] W2:=⟨rfl,by simp,fun _ _=>rfl⟩
theorem Marked.step {W2:List Int} (h:Marked S W2 D W) (hlt:b+1 < W2.length) (hD:∀ c ∈ D,c ≠ b/\c+1 ≠ b/\c ≠ b+1):Marked S W2 (D ++ [b]) ((W.set b 0).set (b+1) (wz S.sizes (ow S.words b):Nat)):=by
 have hl:=h.len
 have h1:b < W.length:=by omega
 have h2:b+1 < (W.set b 0).length:=by simp;omega
 refine ⟨by simpa using hl,fun c hc=>?_,fun j hj=>?_⟩
 . rcases List.mem_append.1 hc with hc | hc
   . have:=hD c hc;rw [ow_set_ne h2 (by omega),ow_set_ne h1 (by omega),ow_set_ne h2 (by omega),ow_set_ne h1 (by omega)];exact h.dead c hc
   have:c=b:=by simpa using hc
   subst this;rw [ow_set_ne h2 (by omega),ow_set_eq h1,ow_set_eq h2];exact ⟨rfl,rfl⟩
 have:=hj b (by simp)
 rw [ow_set_ne h2 this.2,ow_set_ne h1 this.1]
 exact h.other j fun c hc=>hj c (by simp [hc])
structure Mid (S:Hs) (ch:Nat->List Nat) (T:List Nat) (W1 W2:List Int) (S3:Hs):Prop where
 un:Hs.unlinks T S.fuel S.words (List.range 16)=some W1
 l1:W1.length=S.words.length
 path:∀ c,c < 16->Path (ow W1) c ((ch c).filter T.contains)
 k1:∀ b ∈ S.taken,∀ i,i < wz S.sizes (ow S.words b)->i ≠ 3->ow W1 (b+i)=ow S.words (b+i)
 us:Hs.unuse { S with words:=W1 } (S.taken.filter fun a=>!T.contains a)=some { S with words:=W2 }
 l2:W2.length=S.words.length
 k2:∀ b ∈ S.taken,∀ i,i < wz S.sizes (ow S.words b)->i ≠ 1->i ≠ 3->ow W2 (b+i)=ow S.words (b+i)
 fre:∀ j,16 < j->(∀ b ∈ S.taken,j < b \/ b+wz S.sizes (ow S.words b)<=j)->ow W2 j=ow S.words j
 co:S.collect=some ((S.taken.filter fun a=>!T.contains a).length,S3)
 coll:Coll S S3 T
 heads:∀ j,j < 16->ow S3.words j=ow W2 j
 k3:∀ b ∈ S3.taken,∀ i,i < wz S.sizes (ow S.words b)->ow S3.words (b+i)=ow W2 (b+i)
 v3:∀ j,(∀ b ∈ S.taken,j ≠ b+1)->ow W2 j=ow W1 j
 v4:∀ b ∈ S.taken,ow W2 (b+1)=ow W1 (b+1)-cnt (ow S.words) S.sizes b (S.taken.filter fun a=>!T.contains a)
set_option maxHeartbeats 1000000 in
theorem collect_mid {ch:Nat->List Nat} (h:Wf S B L ch) (hT:S.live=some T):∃ W1 W2 S3 L3,Mid S ch T W1 W2 S3/\Wf S3 B L3 (fun c=>(ch c).filter T.contains):=by
 obtain ⟨S',L',hco,hcoll,hwf⟩:=collect_wf h hT
 obtain ⟨T',hT',t1,t2,t3,t4,_⟩:=h.live_
 rw [hT] at hT'
 cases hT'
 have hlo:=h.lo
 have hhi:=h.hi
 have hm16:∀ c,c < 16 -> ∀ a ∈ ch c,a ∈ S.taken:=fun c hc a ha=>((h.chains.mem c hc a).1 ha).1
 obtain ⟨W1,u1,u2,u3,u4⟩:=unlinks_spec T S.fuel (fun c=>if c < 16 then ch c else []) (fun c c' a ha ha'=>by
  split at ha
  . rename_i hc
    split at ha'
    . rename_i hc';exact ((h.chains.mem c hc a).1 ha).2.symm.trans ((h.chains.mem c' hc' a).1 ha').2
    cases ha'
  . cases ha) (fun c hc=>by simp only [if_pos hc];exact h.chains.nodup c hc) (List.range 16) S.words List.nodup_range (by omega) (fun c hc=>by
  have hc:c < 16:=by simpa using hc
  simp only [if_pos hc];refine ⟨hc,h.chains.path c hc, ?_,fun a ha=>?_⟩
  . have:=nodup_len (h.chains.nodup c hc) (hm16 c hc);have:=h.few;unfold Hs.fuel;omega
  . have:=h.part (hm16 c hc a ha);omega)
 have u4':∀ j,16<=j->(∀ a ∈ S.taken,j ≠ a+3)->ow W1 j=ow S.words j:=fun j hj hn=>u4 j fun c hc=>by
  have hc:c < 16:=by simpa using hc
  simp only [if_pos hc];exact ⟨by omega,fun a ha=>hn a (hm16 c hc a ha)⟩
 have U:∀ b ∈ S.taken,∀ i,i < wz S.sizes (ow S.words b)->i ≠ 3->ow W1 (b+i)=ow S.words (b+i):=fun b hb i hi h3=>by
  have:=h.part hb;exact u4' _ (by omega) fun a ha=>h.ne hb ha hi (by have:=h.part ha;omega) (.inr h3)
 have US:Same (ow S.words) (ow W1) S.sizes S.taken:=fun b hb=>by
  have:=h.part hb;refine ⟨by simpa using U b hb 0 (by omega) (by omega),fun i hi=>?_⟩;have:=U b hb (4+i) (by omega) (by omega);rw [<- Nat.add_assoc] at this;exact this
 generalize hD:S.taken.filter (fun a=>!T.contains a)=D at *
 have mD:∀ a,a ∈ D ↔ a ∈ S.taken/\a ∉ T:=fun a=>by rw [<- hD];simp
 obtain ⟨W2,v1,v2,v3,v4⟩:=unuse_spec h D W1 (fun a ha=>((mD a).1 ha).1) u2 US (fun b hb=>by
  have h1:=h.uses_le hb;have h2:=widths_filter (f:=ow S.words) (z:=S.sizes) (fun a=>!T.contains a) S.taken;rw [hD] at h2;have h3:=h.widths_;rw [U b hb 1 (by have:=h.part hb;omega) (by omega)];omega)
 have V:∀ b ∈ S.taken,∀ i,i < wz S.sizes (ow S.words b)->i ≠ 1->ow W2 (b+i)=ow W1 (b+i):=fun b hb i hi h1=>v3 _ fun c hc=>h.ne hb hc hi (by have:=h.part hc;omega) (.inr h1)
 have F0:∀ j,16 < j->(∀ b ∈ S.taken,j < b \/ b+wz S.sizes (ow S.words b)<=j)->ow W2 j=ow S.words j:=fun j hj hn=>by
  rw [v3 j fun b hb=>?_,u4' j (by omega) fun b hb=>?_]
  . have:=hn b hb;have:=h.part hb;omega
  have:=hn b hb;have:=h.part hb;omega
 have FRE:∀ t ∈ L,t.fr=true -> ∀ j,t.a<=j->j < t.a+t.k->ow W2 j=ow S.words j:=fun t ht hf j h1 h2=>by
  have hm:=h.parts.lay.mem ht;exact F0 j (by omega) fun b hb=>by have:=h.apart hb ht hf;omega
 have P2:Parts (ow W2) S.sizes L S.words.length:=by
  refine h.parts.congr ?_ (fun t ht=>?_) FRE
  . rw [v3 _ fun b hb=>by have:=h.part hb;omega,u4' _ (by omega) fun b hb=>by have:=h.part hb;omega]
  cases hf:t.fr with
  | true=>exact FRE t ht hf _ (Nat.le_refl _) (by have:=h.parts.lay.mem ht;omega)
  | false=>
   have hb:t.a ∈ S.taken:=by rw [h.taken];exact mem_adsOf.2 ⟨t,ht,hf,rfl⟩
   have hp:=h.part hb;have e1:=V t.a hb 0 (by omega) (by omega);have e2:=U t.a hb 0 (by omega) (by omega);simp only [Nat.add_zero] at e1 e2;rw [e1,e2]
 obtain ⟨S3,L3,w1,w2,w3,w4,w5,w6,w7,w8,w9⟩:=frees_spec D { S with words:=W2 } L h.fr.toFr (by show W2.length<=_;omega) (by show Parts (ow W2) S.sizes L W2.length;rw [v2];exact P2) (fun a ha=>by rw [<- h.taken];exact ((mD a).1 ha).1) (by rw [<- hD];exact (up_nodup h.up).filter _) (up_nodup h.up)
 have w8:∀ j,j < 16->ow S3.words j=ow W2 j:=w8
 have w9:∀ t ∈ L,t.fr=false->t.a ∉ D -> ∀ j,t.a<=j->j < t.a+t.k->ow S3.words j=ow W2 j:=w9
 have hu:S.unlink T=some { S with words:=W1 }:=by
  unfold Hs.unlink;rw [u1];rfl
 have co:S.collect=some (D.length,S3):=by
  unfold Hs.collect;rw [hT];simp only [Option.bind_eq_bind,Option.bind_some,hu];rw [hD,v1];simp only [Option.bind_some,w1]
 rw [hco] at co
 have eS:S'=S3:=by simpa using co
 subst eS
 have m3:∀ b,b ∈ S'.taken ↔ b ∈ S.taken/\b ∈ T:=fun b=>by rw [hcoll.taken];simp
 have K:∀ b ∈ S'.taken,∀ i,i < wz S.sizes (ow S.words b)->ow S'.words (b+i)=ow W2 (b+i):=fun b hb i hi=>by
  obtain ⟨h1,h2⟩:=(m3 b).1 hb;exact w9 _ (h.part h1).1 rfl (fun hm=>((mD b).1 hm).2 h2) _ (by simp) (by simpa using hi)
 refine ⟨W1,W2,S',L',⟨u1,u2,fun c hc=>?_,U,by rw [hD];exact v1,v2,fun b hb i hi h1 h3=>by rw [V b hb i hi h1,U b hb i hi h3],F0,by rw [hD];exact hco,hcoll,w8,K,v3,by rw [hD];exact v4⟩,hwf⟩
 have:=u3 c (by simpa using hc)
 simp only [if_pos hc] at this
 exact this
theorem mid_merging {S3:Hs} {ch:Nat->List Nat} {W1 W2:List Int} (h:Wf S B L ch) (m:Mid S ch T W1 W2 S3) (k:Marked S W2 (S.taken.filter fun a=>!T.contains a) W) :
    Merging S3 [] (L.map (mk (S.taken.filter fun a=>!T.contains a))) 17 W:=by
  have c:=m.coll;generalize hD:S.taken.filter (fun a=>!T.contains a)=D at *;have mD:∀ a,a ∈ D ↔ a ∈ S.taken/\a ∉ T:=fun a=>by rw [<- hD];simp
  have m3:∀ b,b ∈ S3.taken ↔ b ∈ S.taken/\b ∈ T:=fun b=>by rw [c.taken];simp
  have wide:∀ b ∈ S3.taken,wz S3.sizes (ow S3.words b)=wz S.sizes (ow S.words b):=fun b hb=>by rw [c.sizes,(c.old b hb).1]
  refine ⟨k.len.trans (m.l2.trans c.len.symm),rfl,by rw [c.len];exact lay_mk D h.parts.lay,trivial,by simp [ltF], ?_,fun t ht hf=>?_,fun t ht hf=>?_,fun x hx=>?_,fun b hb i hi=>?_⟩
  . rw [List.nil_append,ads_mk,<- h.taken,c.taken];apply List.filter_congr;intro b hb;rw [Bool.eq_iff_iff];simp [mD,hb]
  . rw [List.nil_append,List.mem_map] at ht;obtain ⟨u,hu,rfl⟩:=ht;show ow W u.a=0/\ow W (u.a+1)=(u.k:Int)
    have mu:=h.parts.lay.mem hu
    cases huf:u.fr with
    | true=>
     have ok:=(h.parts.ok u hu).free huf;have far:∀ b ∈ D,u.a ≠ b/\u.a ≠ b+1/\u.a+1 ≠ b/\u.a+1 ≠ b+1:=fun b hb=>by
      have hb:=((mD b).1 hb).1;have:=h.apart hb hu huf;have:=h.part hb;omega
     rw [k.other _ fun b hb=>⟨(far b hb).1,(far b hb).2.1⟩,k.other _ fun b hb=>⟨(far b hb).2.2.1,(far b hb).2.2.2⟩];rw [m.fre _ (by omega) fun b hb=>by have:=h.apart hb hu huf;omega,m.fre _ (by omega) fun b hb=>by have:=h.apart hb hu huf;omega];exact ⟨ok.1,ok.2.1⟩
    | false=>
     have hd:D.contains u.a=true:=by simpa [mk,huf] using hf
     have:=k.dead u.a (by simpa using hd);rw [((h.parts.ok u hu).cell huf).2];exact this
  . rw [List.nil_append,List.mem_map] at ht;obtain ⟨u,hu,rfl⟩:=ht;have hf':u.fr=false/\D.contains u.a=false:=by simpa [mk] using hf
    have hb:u.a ∈ S.taken:=by rw [h.taken];exact mem_adsOf.2 ⟨u,hu,hf'.1,rfl⟩
    have hb3:u.a ∈ S3.taken:=(m3 _).2 ⟨hb,by
     have:u.a ∉ D:=by simpa using hf'.2
     rw [mD] at this;exact Classical.byContradiction fun q=>this ⟨hb,q⟩⟩
    show u.k=wz S3.sizes (ow S3.words u.a);rw [wide _ hb3];exact ((h.parts.ok u hu).cell hf'.1).2
  . rw [m.heads x hx];exact k.other x fun b hb=>by
     have:=h.part ((mD b).1 hb).1;omega
  rw [wide b hb] at hi;obtain ⟨hb1,hb2⟩:=(m3 b).1 hb;rw [m.k3 b hb i hi];refine k.other _ fun c' hc'=>?_
  obtain ⟨q1,q2⟩:=(mD c').1 hc';have hne:b ≠ c':=fun e=>q2 (e ▸ hb2)
  have h0:=h.ne (i:=i) (j:=0) hb1 q1 hi (by have:=h.part q1;omega) (.inl hne);have h1:=h.ne (i:=i) (j:=1) hb1 q1 hi (by have:=h.part q1;omega) (.inl hne);exact ⟨by simpa using h0,h1⟩
end Hp
namespace Hp
def KidOf (S:Hs) (Y:List Nat) (a:Nat):Prop:=∃ y ∈ Y,(a:Int) ∈ kz (ow S.words) S.sizes y
def Wants (S:Hs) (Y:List Nat) (a:Nat):Prop:=0 < ow S.words (a+2) \/ KidOf S Y a
structure Finding (S:Hs) (T Y:List Nat):Prop where
 nodup:Y.Nodup
 sub:∀ y ∈ Y,y ∈ T
def ShutTo (S:Hs) (Y:List Nat) (i:Nat):Prop:=∀ k a,k < i->S.taken[k]? = some a->Wants S Y a->a ∈ Y
section
variable {S:Hs} {B:Nat} {L:List Tl} {ch:Nat->List Nat} {T Y:List Nat}
theorem Finding.start (S:Hs) (T:List Nat):Finding S T []:=⟨List.nodup_nil,by simp⟩
theorem live_in (h:Wf S B L ch) (hT:S.live=some T):(∀ a ∈ T,a ∈ S.taken)/\T.Pairwise (· < ·):=by
 obtain ⟨T',hT',t1,t2,_⟩:=h.live_
 rw [hT] at hT'
 cases hT'
 exact ⟨t2,t1⟩
theorem Finding.add (h:Wf S B L ch) (hT:S.live=some T) (F:Finding S T Y) (ha:a ∈ S.taken) (hn:a ∉ Y) (hw:Wants S Y a):Finding S T (Y ++ [a]):=by
 obtain ⟨T',hT',t1,t2,t3,t4,_⟩:=h.live_
 rw [hT] at hT'
 cases hT'
 refine ⟨List.nodup_append.2 ⟨F.nodup,by simp,fun x hx y hy=>?_⟩,fun y hy=>?_⟩
 . have:y=a:=by simpa using hy
   subst this;exact fun e=>hn (e ▸ hx)
 rcases List.mem_append.1 hy with hy | hy
 . exact F.sub y hy
 have:y=a:=by simpa using hy
 subst this
 rcases hw with hw | ⟨z,hz,hk⟩
 . exact t3 y ha hw
 exact t4 z (F.sub z hz) y hk
theorem Finding.len (h:Wf S B L ch) (hT:S.live=some T) (F:Finding S T Y):Y.length<=T.length/\Y.length<=S.taken.length:=by
 have h1:=nodup_len F.nodup F.sub
 have h2:=nodup_len F.nodup fun y hy=>(live_in h hT).1 y (F.sub y hy)
 exact ⟨h1,h2⟩
theorem Finding.fin (h:Wf S B L ch) (hT:S.live=some T) (F:Finding S T Y) (hs:ShutTo S Y S.taken.length):(∀ a,a ∈ Y ↔ a ∈ T)/\Y.length=T.length:=by
 obtain ⟨T',hT',t1,t2,t3,t4,t5⟩:=h.live_
 rw [hT] at hT'
 cases hT'
 have shut:∀ a ∈ S.taken,Wants S Y a->a ∈ Y:=fun a ha hw=>by
  obtain ⟨k,hk,e⟩:=List.getElem_of_mem ha;exact hs k a hk (by rw [List.getElem?_eq_getElem hk,e]) hw
 have sup:∀ a ∈ T,a ∈ Y:=t5 Y (fun a ha hp=>shut a ha (.inl hp)) fun a ha b hb=>by
  obtain ⟨b',hb',e,_⟩:=h.cells.kids a (t2 a (F.sub a ha)) _ hb;have:b=b':=by omega
  subst this;exact shut b hb' (.inr ⟨a,ha,hb⟩)
 refine ⟨fun a=>⟨F.sub a,sup a⟩, ?_⟩
 have:=nodup_len F.nodup F.sub
 have:=nodup_len (up_nodup t1) sup
 omega
def natsI (Y:List Nat):List Int:=Y.map fun a:Nat=>(a:Int)
theorem natsI_mem:(a:Int) ∈ natsI Y ↔ a ∈ Y:=by
 unfold natsI
 rw [List.mem_map]
 constructor
 . rintro ⟨b,hb,e⟩;have:b=a:=by omega
   exact this ▸ hb
 exact fun h=>⟨a,h,rfl⟩
theorem natsI_contains:(natsI Y).contains (a:Int)=Y.contains a:=by
 rw [Bool.eq_iff_iff]
 simp only [List.contains_iff_mem]
 exact natsI_mem
theorem natsI_len (Y:List Nat):(natsI Y).length=Y.length:=by simp [natsI]
theorem natsI_app (Y Z:List Nat):natsI (Y ++ Z)=natsI Y ++ natsI Z:=by simp [natsI]
theorem natsI_rd (h:Y[j]? = some a):rd (natsI Y) j=some (a:Int):=by
 simp [rd,natsI,h]
theorem natsI_zero (h:x ∈ natsI Y):∃ a ∈ Y,x=(a:Int):=by
 unfold natsI at h
 rw [List.mem_map] at h
 obtain ⟨a,ha,e⟩:=h
 exact ⟨a,ha,e.symm⟩
end
end Hp
namespace Hp
theorem ccOf_snoc {S:Hs} {m:Nat->Nat} {a:Nat}:∀ {d:List Nat} {cc:Nat->List Nat} {c:Nat},ccOf S m (d ++ [a]) cc c=if c=cz (ow S.words a) (nz (ow S.words) S.sizes m a) then m a :: ccOf S m d cc c else ccOf S m d cc c
 | [],cc,c=>rfl
 | b :: d,cc,c=>by
  rw [List.cons_append];unfold ccOf;exact ccOf_snoc
theorem ccOf_mem {S:Hs} {m:Nat->Nat} {x c:Nat}:∀ {d:List Nat} {cc:Nat->List Nat},x ∈ ccOf S m d cc c->x ∈ cc c \/ ∃ b ∈ d,x=m b
 | [],cc,h=>.inl h
 | b :: d,cc,h=>by
  unfold ccOf at h
  rcases ccOf_mem h with h | ⟨b',hb',e⟩
  . split at h
    . rcases List.mem_cons.1 h with rfl | h
      . exact .inr ⟨b,by simp,rfl⟩
      exact .inl h
    exact .inl h
  exact .inr ⟨b',by simp [hb'],e⟩
theorem place_at {f:Nat->Int} {z:List Int}:∀ {T:List Nat} {s i a:Nat},T.Nodup->T[i]? = some a->place f z s T a=s+widths f z (T.take i)
 | [],_,_,_,_,h=>by simp at h
 | b :: T,s,0,a,_,h=>by
  have:b=a:=by simpa using h
  subst this;simp [place,widths]
 | b :: T,s,i+1,a,hn,h=>by
  have h':T[i]? = some a:=by simpa using h
  have hne:b ≠ a:=fun e=>(List.nodup_cons.1 hn).1 (e ▸ List.mem_of_getElem? h')
  have ih:=place_at (f:=f) (z:=z) (s:=s+wz z (f b)) (List.nodup_cons.1 hn).2 h';rw [List.take_succ_cons];unfold place widths;rw [if_neg (by omega),ih];omega
structure Packing (S:Hs) (m:Nat->Nat) (i:Nat) (V:List Int):Prop where
 len:V.length=S.words.length
 done:∀ b ∈ S.taken.take i,ow V (m b)=ow S.words b/\ow V (m b+1)=ow S.words (b+1)/\ow V (m b+2)=ow S.words (b+2) /\ ∀ k,k < wz S.sizes (ow S.words b)-4->ow V (m b+4+k)=(nz (ow S.words) S.sizes m b).getD k 0
 path:∀ c,c < 16->Path (ow V) c (ccOf S m (S.taken.take i) (fun _=>[]) c)
 rest:∀ j,j=16 \/ 17<=j/\(∀ b ∈ S.taken.take i,j < m b \/ m b+wz S.sizes (ow S.words b)<=j)->ow V j=0
structure Filling (S:Hs) (m:Nat->Nat) (a:Nat) (V0:List Int) (k:Nat) (V:List Int):Prop where
 len:V.length=S.words.length
 three:ow V (m a)=ow S.words a/\ow V (m a+1)=ow S.words (a+1)/\ow V (m a+2)=ow S.words (a+2)
 fld:∀ j,j < k->ow V (m a+4+j)=(nz (ow S.words) S.sizes m a).getD j 0
 other:∀ j,(j < m a \/ m a+wz S.sizes (ow S.words a)<=j)->ow V j=ow V0 j
theorem nz_length (f:Nat->Int) (z:List Int) (m:Nat->Nat) (a:Nat):(nz f z m a).length=wz z (f a)-4:=by
 unfold nz
 split <;> simp [fz_length]
section
variable {S:Hs} {B:Nat} {L:List Tl} {ch:Nat->List Nat} {m:Nat->Nat} {next i a:Nat} {V V0:List Int}
structure Goes (S:Hs) (m:Nat->Nat) (next:Nat):Prop where
 top:next<=S.words.length
 rng:∀ b ∈ S.taken,17<=m b/\m b+wz S.sizes (ow S.words b)<=next
 up:∀ a ∈ S.taken,∀ b ∈ S.taken,a < b->m a+wz S.sizes (ow S.words a)<=m b
theorem goes_place (h:Wf S B L ch):Goes S (place (ow S.words) S.sizes 17 S.taken) (17+widths (ow S.words) S.sizes S.taken):=by
 have:=h.widths_
 exact ⟨by omega,fun b hb=>place_in hb,fun a ha b hb hab=>place_up h.up ha hb hab⟩
theorem Goes.ne (g:Goes S m next) (ha:a ∈ S.taken) (hb:b ∈ S.taken) (hne:a ≠ b):m a+wz S.sizes (ow S.words a)<=m b \/ m b+wz S.sizes (ow S.words b)<=m a:=by
 rcases Nat.lt_or_ge a b with h | h
 . exact .inl (g.up a ha b hb h)
 exact .inr (g.up b hb a ha (by omega))
theorem Packing.start (n:Nat) (hn:S.words.length=n):Packing S m 0 (List.replicate n 0):=
 ⟨by simp [hn],by simp,fun c hc=>by simp only [List.take_zero];exact ow_rep _ _,fun j _=>ow_rep _ _⟩
theorem Packing.into (h:Wf S B L ch) (g:Goes S m next) (P:Packing S m i V) (ha:S.taken[i]? = some a) :
    Filling S m a V 0 (((V.set (m a) (ow S.words a)).set (m a+1) (ow S.words (a+1))).set (m a+2) (ow S.words (a+2))):=by
  have hat:=List.mem_of_getElem? ha;have r:=g.rng a hat;have t:=g.top;have p:=h.part hat;have hl:=P.len;have e:∀ j,ow (((V.set (m a) (ow S.words a)).set (m a+1) (ow S.words (a+1))).set (m a+2) (ow S.words (a+2))) j=if j=m a+2 then ow S.words (a+2) else if j=m a+1 then ow S.words (a+1) else if j=m a then ow S.words a else ow V j:=fun j=>by
   rw [ow_set (by simp;omega),ow_set (by simp;omega),ow_set (by omega)]
  refine ⟨by simp;exact hl,⟨?_, ?_, ?_⟩,fun j hj=>absurd hj (Nat.not_lt_zero _),fun j hj=>?_⟩
  . rw [e,if_neg (by omega),if_neg (by omega),if_pos rfl]
  . rw [e,if_neg (by omega),if_pos rfl]
  . rw [e,if_pos rfl]
  rw [e,if_neg (by omega),if_neg (by omega),if_neg (by omega)]
theorem Filling.step (h:Wf S B L ch) (g:Goes S m next) (hat:a ∈ S.taken) (F:Filling S m a V0 k V) (hk:k < wz S.sizes (ow S.words a)-4):m a+4+k < V.length/\Filling S m a V0 (k+1) (V.set (m a+4+k) ((nz (ow S.words) S.sizes m a).getD k 0)):=by
 have r:=g.rng a hat
 have t:=g.top
 have p:=h.part hat
 have hl:=F.len
 have hlt:m a+4+k < V.length:=by omega
 refine ⟨hlt,by simpa using hl,⟨?_, ?_, ?_⟩,fun j hj=>?_,fun j hj=>?_⟩
 . rw [ow_set_ne hlt (by omega)];exact F.three.1
 . rw [ow_set_ne hlt (by omega)];exact F.three.2.1
 . rw [ow_set_ne hlt (by omega)];exact F.three.2.2
 . by_cases e:j=k
   . subst e;rw [ow_set_eq hlt]
   rw [ow_set_ne hlt (by omega)];exact F.fld j (by omega)
 rw [ow_set_ne hlt (by omega)]
 exact F.other j hj
theorem Filling.fill (h:Wf S B L ch) (g:Goes S m next) (hat:a ∈ S.taken) (F:Filling S m a V0 k V) (hk:k < wz S.sizes (ow S.words a)-4) (x:Int):m a+4+k < V.length/\Filling S m a V0 k (V.set (m a+4+k) x):=by
 have r:=g.rng a hat
 have t:=g.top
 have p:=h.part hat
 have hl:=F.len
 have hlt:m a+4+k < V.length:=by omega
 refine ⟨hlt,by simpa using hl,⟨?_, ?_, ?_⟩,fun j hj=>?_,fun j hj=>?_⟩
 . rw [ow_set_ne hlt (by omega)];exact F.three.1
 . rw [ow_set_ne hlt (by omega)];exact F.three.2.1
 . rw [ow_set_ne hlt (by omega)];exact F.three.2.2
 . rw [ow_set_ne hlt (by omega)];exact F.fld j (by omega)
 rw [ow_set_ne hlt (by omega)]
 exact F.other j hj
theorem take_mem_succ (ha:T[i]? = some a):b ∈ T.take (i+1) ↔ b ∈ T.take i \/ b=a:=by
 obtain ⟨hl,rfl⟩:=List.getElem?_eq_some_iff.1 ha
 rw [List.take_succ_eq_append_getElem hl,List.mem_append,List.mem_singleton]
theorem take_lt (h:T.Pairwise (· < ·)) (ha:T[i]? = some a) (hb:b ∈ T.take i):b ∈ T/\b < a:=by
 refine ⟨List.mem_of_mem_take hb, ?_⟩
 obtain ⟨k,hk,e⟩:=List.getElem_of_mem hb
 rw [List.getElem_take] at e
 obtain ⟨hl,rfl⟩:=List.getElem?_eq_some_iff.1 ha
 rw [<- e]
 rw [List.length_take] at hk
 exact List.pairwise_iff_getElem.1 h k i (by omega) hl (by omega)
theorem Filling.done (h:Wf S B L ch) (g:Goes S m next) (P:Packing S m i V0) (ha:S.taken[i]? = some a) (F:Filling S m a V0 (wz S.sizes (ow S.words a)-4) V) (hc:cz (ow S.words a) (nz (ow S.words) S.sizes m a)=c) :
    m a+3 < V.length/\c < V.length/\ow (V.set (m a+3) (ow V c)) c=ow V c/\Packing S m (i+1) ((V.set (m a+3) (ow V c)).set c (m a:Int)):=by
  have hat:=List.mem_of_getElem? ha;have r:=g.rng a hat;have t:=g.top;have p:=h.part hat;have hl:=F.len;have hc16:c < 16:=hc ▸ cz_lt _ _;have h1:m a+3 < V.length:=by omega
  have h2:c < (V.set (m a+3) (ow V c)).length:=by simp;omega
  have e:∀ j,ow ((V.set (m a+3) (ow V c)).set c (m a:Int)) j=if j=c then (m a:Int) else if j=m a+3 then ow V c else ow V j:=fun j=>by
   rw [ow_set h2,ow_set h1]
  have old:∀ b ∈ S.taken.take i,b ∈ S.taken/\m b+wz S.sizes (ow S.words b)<=m a/\17<=m b/\5<=wz S.sizes (ow S.words b):=fun b hb=>by
   obtain ⟨q1,q2⟩:=take_lt h.up ha hb;exact ⟨q1,g.up b q1 a hat q2,(g.rng b q1).1,(h.part q1).2.2.2.1⟩
  have G:∀ j,(j < m a \/ m a+wz S.sizes (ow S.words a)<=j)->j ≠ c->ow ((V.set (m a+3) (ow V c)).set c (m a:Int)) j=ow V0 j:=fun j hj hne=>by
   rw [e,if_neg hne,if_neg (by omega),F.other j hj]
  refine ⟨h1,by omega,by rw [ow_set_ne h1 (by omega)],by simpa using hl,fun b hb=>?_,fun c' hc'=>?_,fun j hj=>?_⟩
  . rcases (take_mem_succ ha).1 hb with hb | rfl
    . obtain ⟨q0,q1,q2,q3⟩:=old b hb;obtain ⟨d1,d2,d3,d4⟩:=P.done b hb;exact ⟨(G _ (by omega) (by omega)).trans d1,(G _ (by omega) (by omega)).trans d2,(G _ (by omega) (by omega)).trans d3,fun k hk=>(G _ (by omega) (by omega)).trans (d4 k hk)⟩
    have X:∀ j,j ≠ 3->j < wz S.sizes (ow S.words b)->ow ((V.set (m b+3) (ow V c)).set c (m b:Int)) (m b+j)=ow V (m b+j):=fun j hj _=>by rw [e,if_neg (by omega),if_neg (by omega)]
    refine ⟨(X 0 (by omega) (by omega)).trans F.three.1,(X 1 (by omega) (by omega)).trans F.three.2.1,(X 2 (by omega) (by omega)).trans F.three.2.2,fun k hk=>?_⟩;rw [show m b+4+k=m b+(4+k) by omega,X _ (by omega) (by omega),<- Nat.add_assoc];exact F.fld k hk
  . have et:S.taken.take (i+1)=S.taken.take i ++ [a]:=by
      obtain ⟨hl',rfl⟩:=List.getElem?_eq_some_iff.1 ha;exact List.take_succ_eq_append_getElem hl'
    rw [et,ccOf_snoc,hc];have p0:=P.path c' hc';have far:∀ x ∈ ccOf S m (S.taken.take i) (fun _=>[]) c',ow ((V.set (m a+3) (ow V c)).set c (m a:Int)) (x+3)=ow V0 (x+3):=fun x hx=>by
     rcases ccOf_mem hx with hx | ⟨b,hb,rfl⟩
     . cases hx
     obtain ⟨q0,q1,q2,q3⟩:=old b hb;exact G _ (by omega) (by omega)
    by_cases ec:c'=c
    . subst ec;rw [if_pos rfl];refine ⟨by rw [e,if_pos rfl],by omega,p0.move ?_ far⟩;rw [e,if_neg (by omega),if_pos rfl];exact F.other _ (by omega)
    rw [if_neg ec];exact p0.congr (G _ (by omega) ec) far
  have hj':j=16 \/ 17<=j/\(∀ b ∈ S.taken.take i,j < m b \/ m b+wz S.sizes (ow S.words b)<=j):=by
   rcases hj with hj | ⟨hj,hn⟩
   . exact .inl hj
   exact .inr ⟨hj,fun b hb=>hn b ((take_mem_succ ha).2 (.inl hb))⟩
  have hja:j < m a \/ m a+wz S.sizes (ow S.words a)<=j:=by
   rcases hj with hj | ⟨hj,hn⟩
   . omega
   exact hn a ((take_mem_succ ha).2 (.inr rfl))
  rw [G j hja (by omega)];exact P.rest j hj'
theorem Packing.near {L':List Tl} {ch':Nat->List Nat} (h:Wf S B L ch) (g:Goes S m (17+widths (ow S.words) S.sizes S.taken)) (v:Moved S S' M m) (h':Wf S' B L' ch') (hch:ch'=ccOf S m S.taken (fun _=>[]))
    (h1:∀ b ∈ S.taken,ow S'.words (m b+1)=ow S.words (b+1))
    (hL:L'=(S.taken.map fun b=>(⟨m b,wz S.sizes (ow S.words b),false⟩:Tl)) ++ (if 17+widths (ow S.words) S.sizes S.taken < S.words.length then [⟨17+widths (ow S.words) S.sizes S.taken,S.words.length-(17+widths (ow S.words) S.sizes S.taken),true⟩] else []))
    (P:Packing S m S.taken.length V) :
    (17+widths (ow S.words) S.sizes S.taken < S.words.length->17+widths (ow S.words) S.sizes S.taken+1 < V.length/\Near L' (V.set (17+widths (ow S.words) S.sizes S.taken+1) ((S.words.length:Int)-((17+widths (ow S.words) S.sizes S.taken:Nat):Int))) S'.words) /\
    (¬ 17+widths (ow S.words) S.sizes S.taken < S.words.length->Near L' V S'.words):=by
  have hlen:=P.len;have ed:S.taken.take S.taken.length=S.taken:=List.take_length;have hdone:=P.done;have hpath:=P.path;have hrest:=P.rest;rw [ed] at hdone hpath hrest;generalize hnx:17+widths (ow S.words) S.sizes S.taken=next at *;have top:=g.top;have n17:17<=next:=by omega
  have fs3:next < S.words.length->next+3<=S.words.length:=fun hlt=>by
   have:=h'.parts.lay.mem (t:=⟨next,S.words.length-next,true⟩) (by rw [hL,if_pos hlt];simp);have:3<=S.words.length-next:=this.2.2;omega
  have main:∀ W:List Int,W.length=V.length->(∀ j,j < next->ow W j=ow V j)->(next < S.words.length->ow W next=0/\ow W (next+1)=((S.words.length-next:Nat):Int))->Near L' W S'.words:=fun W hWl hW hF=>by
   refine near_of h' (by rw [hWl,hlen,v.len]) (fun c hc=>?_) (fun b' hb' i hi=>?_) (fun t ht hf=>?_)
   . have p1:=h'.chains.path c hc;rw [hch] at p1;rw [hW c (by omega)];exact (path_same (hpath c hc) p1).1
   . rw [v.taken,List.mem_map] at hb';obtain ⟨b,hb,rfl⟩:=hb';have r:=g.rng b hb;have p:=h.part hb;rw [v.sizes,v.tag b hb] at hi;rw [hW _ (by omega)];obtain ⟨d1,d2,d3,d4⟩:=hdone b hb
     by_cases i0:i=0
     . subst i0;exact d1.trans (v.tag b hb).symm
     by_cases i1:i=1
     . subst i1;rw [d2,h1 b hb]
     by_cases i2:i=2
     . subst i2;rw [d3,v.hold b hb]
     by_cases i3:i=3
     . subst i3;have hm:m b ∈ S'.taken:=by rw [v.taken];exact List.mem_map.2 ⟨b,hb,rfl⟩
       have hin:=(h'.chains.mem _ (cz_lt (ow S'.words (m b)) (fz (ow S'.words) S'.sizes (m b))) (m b)).2 ⟨hm,rfl⟩;generalize hc:cz (ow S'.words (m b)) (fz (ow S'.words) S'.sizes (m b))=c at hin;have hc16:c < 16:=hc ▸ cz_lt _ _;have p1:=h'.chains.path c hc16;rw [hch] at p1 hin;exact (path_same (hpath c hc16) p1).2 _ hin
     have e:=d4 (i-4) (by omega);rw [show m b+4+(i-4)=m b+i by omega] at e;rw [e,<- v.fs b hb];unfold fz;have hg:(cut (ow S'.words) (m b+4) (wz S.sizes (ow S'.words (m b))-4))[i-4]? = some (ow S'.words (m b+4+(i-4))):=cut_get (by rw [v.tag b hb];omega);rw [List.getD_eq_getElem?_getD,hg,show m b+4+(i-4)=m b+i by omega];rfl
   rw [hL] at ht
   rcases List.mem_append.1 ht with ht | ht
   . obtain ⟨b,_,rfl⟩:=List.mem_map.1 ht
     cases hf
   split at ht
   . rename_i hlt;have:t=⟨next,S.words.length-next,true⟩:=by simpa using ht
     subst this;exact hF hlt
   cases ht
  have zero:∀ j,next<=j->ow V j=0:=fun j hj=>hrest j (.inr ⟨by omega,fun b hb=>by have:=g.rng b hb;omega⟩)
  refine ⟨fun hlt=>?_,fun hn=>main V rfl (fun _ _=>rfl) fun hlt=>absurd hlt hn⟩;have f3:=fs3 hlt;have hl1:next+1 < V.length:=by omega
  refine ⟨hl1,main _ (by simp) (fun j hj=>ow_set_ne hl1 (by omega)) fun _=>⟨?_, ?_⟩⟩
  . rw [ow_set_ne hl1 (by omega)];exact zero next (Nat.le_refl _)
  rw [ow_set_eq hl1];omega
end
def pairsOf (m:Nat->Nat) (T:List Nat):List Int:=T.flatMap fun a=>if m a ≠ a then [(a:Int),(m a:Int)] else []
end Hp
open Go.RowKit Go.Maps
def Rd.own (r:Rd):List Nat:=[r.rb,r.gb]
structure RW (w:World) (r:Rd) (S:Hp.Hs):Prop where
 c0:w.cell? ⟨r.rb,0,none⟩=some (.slice r.sp S.sizes.length r.sc)
 c1:w.cell? ⟨r.rb,1,none⟩=some (.slice r.op S.order.length r.oc)
 c2:w.cell? ⟨r.rb,2,none⟩=some (.slice (some ⟨r.gb,0,none⟩) S.words.length r.wc)
 f2:w.frozen? ⟨r.rb,2,none⟩=false
 sizes:SliceAt w r.sp r.sc S.sizes
 order:SliceAt w r.op r.oc S.order
 words:WordsAt w r.gb S.words
 le:S.words.length<=r.wc
 cap:r.wc<=9223372036854775807
 go:r.go=0
 apart:r.rb ≠ r.gb
 far1:0 < S.sizes.length -> ∀ b o,r.sp=some ⟨b,o,none⟩->b ∉ r.own
 far2:0 < S.order.length -> ∀ b o,r.op=some ⟨b,o,none⟩->b ∉ r.own
theorem WordsAt.slice (h:WordsAt w g W) (h1:W.length<=c) (h2:c<=9223372036854775807):SliceAt w (some ⟨g,0,none⟩) c W:=
 ⟨h1,h2,h.wf,fun _=>⟨g,0,rfl,h.lt,fun j x hx=>by rw [Nat.zero_add];exact h.get hx⟩⟩
theorem SliceAt.but1 (h:SliceAt w p c l) {bs:List Nat} (k:But bs w w') (hf:0 < l.length -> ∀ b o,p=some ⟨b,o,none⟩->b ∉ bs):SliceAt w' p c l:=by
 refine ⟨h.le,h.cap,h.wf,fun h0=>?_⟩
 obtain ⟨b,o,rfl,hb,hc⟩:=h.cells h0
 exact ⟨b,o,rfl,Nat.lt_of_lt_of_le hb k.size,fun j x hx=>(k.cell hb (hf h0 b o rfl) _).trans (hc j x hx)⟩
namespace RW
variable {w w':World} {r:Rd} {S:Hp.Hs}
theorem at_ (h:RW w r S):RAt w r S:=⟨h.c0,h.c1,by rw [h.go];exact h.c2,h.sizes,h.order,by rw [h.go];exact h.words.slice h.le h.cap⟩
theorem lt (h:RW w r S):r.rb < w.heap.size:=cell_lt h.c0
theorem ext (h:RW w r S) (k:Ext w w'):RW w' r S:=
 { h with
   c0:=(k.cell h.lt 0).trans h.c0
   c1:=(k.cell h.lt 1).trans h.c1
   c2:=(k.cell h.lt 2).trans h.c2
   f2:=(k.frozen h.lt 2).trans h.f2
   sizes:=h.sizes.ext k
   order:=h.order.ext k
   words:=h.words.ext k }
theorem turn (h:RW w r S) (k:But [r.gb] w w') (hw:WordsAt w' r.gb W) (hl:W.length=S.words.length):RW w' r { S with words:=W }:=
 have n1:r.rb ∉ [r.gb]:=by simp [h.apart]
 { h with
   c0:=(k.cell h.lt n1 0).trans h.c0
   c1:=(k.cell h.lt n1 1).trans h.c1
   c2:=by rw [k.cell h.lt n1 2,h.c2,hl]
   f2:=(k.frozen h.lt n1 2).trans h.f2
   sizes:=h.sizes.but1 k (fun h0 b o e hm=>h.far1 h0 b o e (by simp [Rd.own] at hm ⊢;simp [hm]))
   order:=h.order.but1 k (fun h0 b o e hm=>h.far2 h0 b o e (by simp [Rd.own] at hm ⊢;simp [hm]))
   words:=hw
   le:=by rw [hl];exact h.le }
theorem but (h:RW w r S) {l:List Nat} (k:But l w w') (h0:r.rb ∉ l) (h1:r.gb ∉ l) (h3:∀ b o,r.sp=some ⟨b,o,none⟩->b ∉ l) (h4:∀ b o,r.op=some ⟨b,o,none⟩->b ∉ l):RW w' r S:=
 { h with
   c0:=(k.cell h.lt h0 0).trans h.c0
   c1:=(k.cell h.lt h0 1).trans h.c1
   c2:=(k.cell h.lt h0 2).trans h.c2
   f2:=(k.frozen h.lt h0 2).trans h.f2
   sizes:=h.sizes.but k h3
   order:=h.order.but k h4
   words:=h.words.but k h1 }
theorem get (h:RW w r S) (hj:j < S.words.length):w.cell? ⟨r.gb,j,none⟩=some (.int .i64 (Hp.ow S.words j)):=h.words.get (Hp.rd_ow hj)
theorem bound (h:RW w r S) (hj:j < S.words.length) : -9223372036854775808<=Hp.ow S.words j/\Hp.ow S.words j<=9223372036854775807:=h.words.bound (Hp.rd_ow hj)
theorem set (h:RW w r S) {v:Int} (hj:j < S.words.length) (h1 : -9223372036854775808<=v) (h2:v<=9223372036854775807):RW (w.setCell ⟨r.gb,j,none⟩ (.int .i64 v)) r { S with words:=S.words.set j v }:=
 h.turn ((But.refl _ _).setCell (by simp) _) (h.words.set (W':=S.words.set j v) (by simp [Hp.wr,hj]) h1 h2) (by simp)
end RW
structure RNow (w0 w:World) (r:Rd) (S:Hp.Hs):Prop extends RW w r S where
 but:But r.own w0 w
theorem Rd.gb_own (r:Rd):r.gb ∈ r.own:=by simp [Rd.own]
theorem Rd.rb_own (r:Rd):r.rb ∈ r.own:=by simp [Rd.own]
namespace RNow
variable {w0 w w':World} {r:Rd} {S:Hp.Hs}
theorem refl (h:RW w r S):RNow w w r S:=⟨h,But.refl _ _⟩
theorem ext (h:RNow w0 w r S) (k:Ext w w'):RNow w0 w' r S:=⟨h.toRW.ext k,h.but.ext k⟩
theorem trans {a b c:World} (h:RNow a b r S) (k:RNow b c r S'):RNow a c r S':=⟨k.toRW,h.but.trans k.but⟩
theorem set (h:RNow w0 w r S) {v:Int} (hj:j < S.words.length) (h1 : -9223372036854775808<=v) (h2:v<=9223372036854775807):RNow w0 (w.setCell ⟨r.gb,j,none⟩ (.int .i64 v)) r { S with words:=S.words.set j v }:=
 ⟨h.toRW.set hj h1 h2,h.but.setCell (.inl r.gb_own) _⟩
theorem cut {P:Program} {c:Code} {Q:Exit->Act->World->Prop} {a:Act} (h:RNow w0 w r S) (k:∀ w',RNow w0 w' r S->c.wp P Q a w'):c.wp P Q a w:=k w h
end RNow
def RTurned (r:Rd) (w:World) (v:Value) (S:Hp.Hs) (e:Ending) (w':World):Prop:=e = .returned v/\RNow w w' r S
theorem RNow.done {v:Value} (h:RNow w0 w r S):RTurned r w0 v S (.returned v) w:=⟨rfl,h⟩
open Go.RowKit Go.Maps
theorem RNow.len (h:RNow w0 w r { S with words:=V }) (e:V.length=n):w.cell? ⟨r.rb,2,none⟩=some (.slice (some ⟨r.gb,0,none⟩) n r.wc):=by
 rw [<- e]
 exact h.c2
theorem RNow.word (h:RNow w0 w r { S with words:=V }) (hj:j < V.length) (e:Hp.ow V j=x):w.cell? ⟨r.gb,j,none⟩=some (.int .i64 x):=by
 rw [<- e]
 exact h.get hj
theorem RNow.as (h:RNow w0 w r { S with words:=V }) (e:V=S.words):RNow w0 w r S:=by
 subst e
 exact h
set_option maxRecDepth 100000 in
set_option maxHeartbeats 8000000 in
theorem rLink {ch:Nat->List Nat} (h:RW w r { S with words:=W }) (hw:Hp.Wf S B L ch) (hn:Hp.Near L W S.words) :
    Calls Tryz.prog 152 #[.pointer (some ⟨r.rb,0,none⟩)] w (RTurned r w (.tuple #[]) S):=by
  have HP:=hZ hw.parts;have hi:=hw.hi;have lo:=hw.lo;have HZ:=hZ hw.fr.toFr;have hLn:=Hp.lay_len_ hw.parts.lay;have hcap:=h.cap;have hle:S.words.length<=r.wc:=by rw [<- hn.len];exact h.le
  have LK0:=hZ (Hp.Linking.start hn hw.parts.lay);have N0:=hZ (RNow.refl h);obtain ⟨n,hnn⟩:∃ n,S.words.length=n:=⟨_,rfl⟩
  have EN:=hZ hnn;rw [hnn] at hi lo hLn hle;clear h hn hnn hw;go_enter Tryz.func152,Tryz.ntmps152
  go_wp2_with fail
  go_loopg [2,3] L.length (fun g b i wr=>∃ (P Q:List Hp.Tl) (a:Nat) (V:List Int),Q.length<=g/\i = .int .i64 a/\b = .int .i64 (Hp.lastL 16 P)/\a<=n/\Hid (L=P ++ Q)/\Hid (Hp.Lay a Q n)/\Hid (Hp.Linking L P a V S.words)/\Hid (RNow w wr r { S with words:=V }))
  case atStart=>exact ⟨[],L,17,W,Nat.le_refl _,rfl,rfl,by omega,hZ rfl,hZ (by rw [<- EN.out];exact HP.out.lay),LK0,N0⟩
  case round=>
   obtain ⟨P,Q,a,V,hg,rfl,rfl,ha,EL,LQ,LK,N⟩:=hrel;have vl:V.length=n:=LK.out.len.trans EN.out;have EV:=hZ vl;have c2:=N.out.len vl;obtain ⟨bf,hbf⟩:∃ bf,Hp.lastL 16 P=bf:=⟨_,rfl⟩
   have BF:=hZ hbf;rw [hbf];clear hbf vl
   cases Q with
   | nil=>
    have:a=n:=LQ.out;subst this;have tk:decide ((a:Int) < (a:Int))=false:=dF;have FIN:=hZ (show bf < V.length/\V.set bf 0=S.words by
     have hP:P=L:=by rw [EL.out,List.append_nil]
     have k:=LK.out;have b:=BF.out;rw [hP] at k b;have:=Hp.Linking.finish (EN.out ▸ k) HP.out (by have:=EN.out;omega);rw [b] at this;exact this)
    have b1:=FIN.out.1;rw [EV.out] at b1;have g1:=N.out.word (j:=bf) (x:=_) FIN.out.1 rfl;have fr:=N.out.words.froz bf;have z1:=N.out.words.lt;have NF:=hZ (RNow.as (S:=S) (V:=V.set bf 0) (N.out.set (j:=bf) (v:=0) FIN.out.1 (by omega) (by omega)) FIN.out.2)
    go_wp2_with fail
    go_returns;exact ⟨rfl,NF.out⟩
   | cons t Q=>
    obtain ⟨q1,q2,q3⟩:=LQ.out;have q4:=q3.le;have htL:t ∈ L:=by rw [EL.out];simp
    have ok:=HP.out.ok t htL;have np:=LK.out.toNear.part HP.out.lay htL;have EL2:Hid (L=(P ++ [t]) ++ Q):=hZ (by rw [EL.out];simp);have LQ2:=hZ q3;have tk:decide ((a:Int) < (n:Int))=true:=dT;have HNX:=hZ (show IntKind.i64.wrap ((a:Int)+(t.k:Int))=((a+t.k:Nat):Int) by rw [Int.natCast_add];exact IntWalk.i64_in _ (by omega));have HT:=hZ q1;have HTL:=hZ htL;have va:a+1 < V.length:=by rw [EV.out];omega
    rw [q1] at np;simp only [List.length_cons] at hg
    cases hf:t.fr with
    | false=>
     have hcl:=ok.cell hf;rw [q1] at hcl;have hto:=Hp.okTag_le HZ.out hcl.1;have e0:=np.1;have LONG:=hZ (fun W (hW:Ext wr W)=>rLong_cell (N.out.toRW.at_.ext hW) HZ.out (a:=a) (by show a < V.length;omega) (by show Hp.okTag S.sizes (Hp.ow V a)=true;rw [e0];exact hcl.1));have EK:=hZ (show Hp.wz S.sizes (Hp.ow V a)=t.k by rw [e0];exact hcl.2.symm);have LONG2:Hid (∀ W,Ext wr W->Calls Tryz.prog 67 #[.pointer (some ⟨r.rb,0,none⟩),.int .i64 a] W fun e w'=>e = .returned (.int .i64 (t.k:Int))/\Ext W w'):=hZ (fun W hW=>by rw [<- EK.out];exact LONG.out W hW);have gx:=N.out.word (j:=a) (x:=Hp.ow V a) (by omega) rfl;have t0:(Hp.ow V a != 0)=true:=by rw [e0];simp;omega
     have z1:=N.out.toRW.lt;have z2:=N.out.words.lt;have LK2:=hZ (LK.out.cell HP.out.lay htL HT.out hf);have BF2:=hZ (show Hp.lastL 16 (P ++ [t])=bf by rw [Hp.lastL_app,BF.out];simp [Hp.lastL,hf]);clear hcl hto ok np q3 q1 hf htL LONG EK e0;generalize Hp.ow V a=x at *
     go_wp2_with (go_at_call 67;refine (LONG2.out _ (exx)).mono ?_;rintro e w1 ⟨rfl,hb1⟩;obtain ⟨hc1,hf1,hs1⟩:=hb1.cells)
     go_roundg Q.length
     case measure=>omega
     case rel=>exact ⟨P ++ [t],Q,a+t.k,V,Nat.le_refl _,by go_num,by rw [BF2.out],by omega,EL2,LQ2,LK2,hZ (N.out.ext hb1)⟩
    | true=>
     have hfr:=ok.free hf;rw [q1] at hfr;have e0:Hp.ow V a=0:=np.1.trans hfr.1;have gx:=N.out.word (j:=a) (by omega) e0;have FR:=hZ (by have:=LK.out.free EL.out HP.out q1 hf;rw [BF.out] at this;exact this);have b1:=FR.out.1;rw [EV.out] at b1;have g1:=N.out.word (j:=bf) (x:=_) FR.out.1 rfl;have fr:=N.out.words.froz bf;have z1:=N.out.toRW.lt;have z2:=N.out.words.lt;have N1:=hZ (N.out.set (j:=bf) (v:=(a:Int)) FR.out.1 (by omega) (by omega));have BF2:=hZ (show Hp.lastL 16 (P ++ [t])=a+2 by rw [Hp.lastL_app];simp [Hp.lastL,hf,HT.out]);have HF:=hZ hf;clear hfr ok np q3 q1 hf htL e0 va;go_upto_region 6 with (fail)
     refine RNow.cut N1.out ?_;intro w5 N5;have NN:=hZ N5;clear N5 N1 fr g1 gx c2 z1 z2 N EV LK
     go_wp2_with fail
     go_loopg [4] t.k (fun g s wx=>∃ (i:Nat) (V:List Int),a+3<=i/\i<=a+t.k/\a+t.k-i<=g/\s = .int .i64 i/\Hid (Hp.Zeroing L t i V S.words)/\Hid (RNow w wx r { S with words:=V }))
     case atStart=>exact ⟨a+3,_,Nat.le_refl _,by omega,by omega,by go_num,hZ FR.out.2,NN⟩
     case round=>
      obtain ⟨i,V2,hi1,hi2,hgi,rfl,ZR,N⟩:=hrel;clear NN FR;have vl:V2.length=n:=ZR.out.len.trans EN.out;have c2:=N.out.len vl;have EV:=hZ vl;have np:=ZR.out.toNear.part HP.out.lay HTL.out;have hfr:=(HP.out.ok t HTL.out).free HF.out;rw [HT.out] at np hfr;have gk:=N.out.word (j:=a+1) (x:=(t.k:Int)) (by omega) (np.2.trans hfr.2.1);have ia:IntKind.i64.wrap ((a:Int)+1)=(a:Int)+1:=IntWalk.i64_in _ (by omega);have gk1:=gk
      by_cases hlt:i < a+t.k
      . have t1:decide ((i:Int) < ((a+t.k:Nat):Int))=true:=dT;have ST:=hZ (ZR.out.step HP.out HTL.out HF.out (by rw [HT.out];omega) (by rw [HT.out];omega));have g1:=N.out.word (j:=i) (x:=_) ST.out.1 rfl;have fr:=N.out.words.froz i;have z1:=N.out.toRW.lt;have z2:=N.out.words.lt;have HNX2:=HNX.out;have i_n:i < n:=by omega
        have N1:=hZ (N.out.set (j:=i) (v:=0) ST.out.1 (by omega) (by omega));clear np hfr vl
        go_wp2_with fail
        go_roundg (a+t.k-(i+1))
        case measure=>omega
        case rel=>exact ⟨i+1,_,by omega,by omega,Nat.le_refl _,by go_num,hZ ST.out.2,N1⟩
      have:i=a+t.k:=by omega
      subst this;have t1:decide (((a+t.k:Nat):Int) < ((a+t.k:Nat):Int))=false:=dF;have e0:Hp.ow V2 a=0:=np.1.trans hfr.1;have gx:=N.out.word (j:=a) (by omega) e0;have LONG:=hZ (fun W (hW:Ext wr W)=>rLong_free (N.out.toRW.at_.ext hW) (a:=a) (k:=t.k) (by show a+1 < V2.length;omega) e0 (np.2.trans hfr.2.1));have LK2:=hZ (show Hp.Linking L (P ++ [t]) (a+t.k) V2 S.words by have z:=ZR.out;rw [<- HT.out] at z ⊢;exact z.fin HF.out);have HNX2:=HNX.out;have z1:=N.out.toRW.lt;clear np hfr vl e0
      go_wp2_with (go_at_call 67;refine (LONG.out _ (exx)).mono ?_;rintro e w1 ⟨rfl,hb1⟩;obtain ⟨hc1,hf1,hs1⟩:=hb1.cells)
      go_roundg Q.length
      case measure=>omega
      case rel=>exact ⟨P ++ [t],Q,a+t.k,V2,Nat.le_refl _,by go_num,by rw [BF2.out];go_num,by omega,EL2,LQ2,LK2,hZ (N.out.ext hb1)⟩
namespace Hp
structure Unl (S:Hs) (ch:Nat->List Nat) (T:List Nat) (k:Nat) (W W1:List Int):Prop where
 len:W.length=S.words.length
 run:Hs.unlinks T S.fuel W ((List.range 16).drop k)=some W1
 path:∀ c,k<=c->c < 16->Path (ow W) c (ch c)
structure UnlIn (S:Hs) (T:List Nat) (m link:Nat) (V Wk:List Int):Prop where
 len:V.length=S.words.length
 lt:link < S.words.length
 run:Hs.unlinkFrom T m V link=some Wk
 rest:∃ r:List Nat,Path (ow V) link r/\r.Nodup /\ ∀ a ∈ r,a ∈ S.taken/\link ≠ a+3
structure Counting (S:Hs) (W1:List Int) (D:List Nat) (i:Nat) (W:List Int):Prop where
 len:W.length=S.words.length
 other:∀ j,(∀ b ∈ S.taken,j ≠ b+1)->ow W j=ow W1 j
 cnt:∀ b ∈ S.taken,ow W (b+1)=ow W1 (b+1)-(Hp.cnt (ow S.words) S.sizes b (D.take i):Nat)
structure CountIn (S:Hs) (W1:List Int) (D:List Nat) (i a k:Nat) (W:List Int):Prop where
 len:W.length=S.words.length
 other:∀ j,(∀ b ∈ S.taken,j ≠ b+1)->ow W j=ow W1 j
 cnt:∀ b ∈ S.taken,ow W (b+1)=ow W1 (b+1)-(Hp.cnt (ow S.words) S.sizes b (D.take i):Nat)-((((kz (ow S.words) S.sizes a).take k).count (b:Int):Nat):Int)
section
variable {S S3:Hs} {B:Nat} {L:List Tl} {ch:Nat->List Nat} {T:List Nat} {W W1 W2 V Wk:List Int} {k m link i a:Nat}
theorem Unl.start (h:Wf S B L ch) (m:Mid S ch T W1 W2 S3):Unl S ch T 0 S.words W1:=⟨rfl,by rw [List.drop_zero];exact m.un,fun c _ hc=>h.chains.path c hc⟩
theorem Unl.fin (u:Unl S ch T 16 W W1):W=W1:=by
 have:=u.run
 rw [show (List.range 16).drop 16=[] from rfl] at this
 simpa [Hs.unlinks] using this
theorem Unl.into (h:Wf S B L ch) (hk:k < 16) (u:Unl S ch T k W W1):∃ Wk,UnlIn S T S.fuel k W Wk/\Unl S ch T (k+1) Wk W1:=by
 obtain ⟨Wk,r1,r2⟩:=unlinks_cons hk u.run
 have hlo:=h.lo
 have hlen:=u.len
 have p:=u.path k (Nat.le_refl _) hk
 have nd:=h.chains.nodup k hk
 have mm:∀ c,c < 16 -> ∀ a ∈ ch c,a ∈ S.taken:=fun c hc a ha=>((h.chains.mem c hc a).1 ha).1
 obtain ⟨W',e1,l1,_,g1⟩:=unlinkFrom_spec T (ch k) S.fuel k W p nd (fun a ha=>by have:=h.part (mm k hk a ha);omega) (by omega) (by
  have:=nodup_len nd (mm k hk);have:=h.few;unfold Hs.fuel;omega)
 rw [r1] at e1
 cases e1
 refine ⟨Wk,⟨u.len,by omega,r1,ch k,p,nd,fun a ha=>⟨mm k hk a ha,by have:=h.part (mm k hk a ha);omega⟩⟩,⟨l1.trans u.len,r2,fun c h1 h2=>?_⟩⟩
 refine (u.path c (by omega) h2).congr (g1 c (by omega) fun a ha=>by have:=h.part (mm k hk a ha);omega) fun a ha=>g1 (a+3) (by have:=h.part (mm c h2 a ha);omega) fun b hb e=>?_
 have:a=b:=by omega
 subst this
 have e1:=((h.chains.mem c h2 a).1 ha).2
 have e2:=((h.chains.mem k hk a).1 hb).2
 omega
theorem UnlIn.cases (h:Wf S B L ch) (u:UnlIn S T m link V Wk):∃ m',m=m'+1/\((ow V link=0/\Wk=V) \/ ∃ x,x ∈ S.taken/\ow V link=(x:Int) /\
    ((T.contains x=true/\UnlIn S T m' (x+3) V Wk) \/ (T.contains x=false/\UnlIn S T m' link (V.set link (ow V (x+3))) Wk))):=by
  obtain ⟨r,p,nd,hr⟩:=u.rest;have hlen:=u.len;have hlt:=u.lt;obtain ⟨m',a,hm,ha,hq⟩:=unlinkFrom_succ u.run;refine ⟨m',hm, ?_⟩
  cases r with
  | nil=>
   have e:ow V link=0:=p;rw [ra_ow (a:=0) (by omega) (by simpa using e)] at ha
   cases ha
   rcases hq with ⟨_,e2⟩ | ⟨h0,_⟩ | ⟨h0,_⟩
   . exact .inl ⟨e,e2⟩
   . exact absurd rfl h0
   exact absurd rfl h0
  | cons x r=>
   obtain ⟨e,h0,p⟩:=p;obtain ⟨d1,d2⟩:=List.nodup_cons.1 nd;have hx:=hr x (by simp);have px:=h.part hx.1;rw [ra_ow (by omega) e] at ha;have ea:x=a:=Option.some.inj ha;subst ea;refine .inr ⟨x,hx.1,e, ?_⟩
   rcases hq with ⟨h1,_⟩ | ⟨_,hc,hq⟩ | ⟨_,hc,y,V1,hy,hV,hq⟩
   . exact absurd h1 h0
   . exact .inl ⟨hc,hlen,by omega,hq,r,p,d2,fun b hb=>⟨(hr b (by simp [hb])).1,fun e'=>d1 (by rw [show x=b by omega];exact hb)⟩⟩
   have ey:=(ow_rd hy).1;have hl':link < V.length:=by omega
   unfold wr at hV;rw [if_pos hl'] at hV
   cases hV
   rw [<- ey] at hq;refine .inr ⟨hc,by simpa using hlen,hlt,hq,r,p.move (by rw [ow_set_eq hl']) fun b hb=>ow_set_ne hl' (hr b (by simp [hb])).2.symm,d2,fun b hb=>hr b (by simp [hb])⟩
theorem Counting.start (m:Mid S ch T W1 W2 S3):Counting S W1 D 0 W1:=⟨m.l1,fun _ _=>rfl,fun b _=>by simp [Hp.cnt]⟩
theorem Counting.into (c:Counting S W1 D i W):CountIn S W1 D i a 0 W:=⟨c.len,c.other,fun b hb=>by rw [c.cnt b hb];simp⟩
theorem CountIn.done (ha:D[i]? = some a) (c:CountIn S W1 D i a (kz (ow S.words) S.sizes a).length W):Counting S W1 D (i+1) W:=by
 refine ⟨c.len,c.other,fun b hb=>?_⟩
 have e:D.take (i+1)=D.take i ++ [a]:=by
  obtain ⟨hl,rfl⟩:=List.getElem?_eq_some_iff.1 ha;exact List.take_succ_eq_append_getElem hl
 rw [c.cnt b hb,e,cnt_app,List.take_length]
 have:Hp.cnt (ow S.words) S.sizes b [a]=(kz (ow S.words) S.sizes a).count (b:Int):=by simp [Hp.cnt]
 rw [this]
 push_cast
 omega
theorem Counting.fin (h:Wf S B L ch) (m:Mid S ch T W1 W2 S3) (c:Counting S W1 (S.taken.filter fun a=>!T.contains a) (S.taken.filter fun a=>!T.contains a).length W):W=W2:=by
 refine ext_ow (by rw [c.len,m.l2]) fun j _=>?_
 by_cases hj:∀ b ∈ S.taken,j ≠ b+1
 . rw [c.other j hj,m.v3 j hj]
 obtain ⟨b,hb⟩:=Classical.not_forall.1 hj
 obtain ⟨hb',e⟩:=Classical.not_imp.1 hb
 have e:j=b+1:=Classical.not_not.1 e
 subst e
 rw [c.cnt b hb',m.v4 b hb',List.take_length]
theorem CountIn.look (h:Wf S B L ch) (m:Mid S ch T W1 W2 S3) (c:CountIn S W1 D i a k W) (hb:b ∈ S.taken) (hj:j < wz S.sizes (ow S.words b)) (h1:j ≠ 1) (h3:j ≠ 3):ow W (b+j)=ow S.words (b+j):=by
 rw [c.other _ fun x hx=>h.ne hb hx hj (by have:=h.part hx;omega) (.inr h1),m.k1 b hb j hj h3]
theorem Counting.look (h:Wf S B L ch) (m:Mid S ch T W1 W2 S3) (c:Counting S W1 D i W) (hb:b ∈ S.taken) (hj:j < wz S.sizes (ow S.words b)) (h1:j ≠ 1) (h3:j ≠ 3):ow W (b+j)=ow S.words (b+j):=CountIn.look h m (c.into (a:=0)) hb hj h1 h3
theorem cnt_take_le (h:Wf S B L ch) (hD:∀ a ∈ D,a ∈ S.taken) (hn:D.Nodup) (hp:D.Sublist S.taken) (b i:Nat):Hp.cnt (ow S.words) S.sizes b (D.take i)<=100000:=by
 have h1:=cnt_le (f:=ow S.words) (z:=S.sizes) b (D.take i)
 have h2:∀ A C:List Nat,A.Sublist C->widths (ow S.words) S.sizes A<=widths (ow S.words) S.sizes C:=fun A C hs=>by
  induction hs with
  | slnil=>exact Nat.le_refl _
  | cons x _ ih=>exact Nat.le_trans ih (Nat.le_add_left _ _)
  | cons_cons x _ ih=>exact Nat.add_le_add_left ih _
 have h3:=h2 _ _ ((List.take_sublist i D).trans hp)
 have h4:=h.widths_
 have:=h.hi
 omega
theorem CountIn.step (h:Wf S B L ch) (m:Mid S ch T W1 W2 S3) (hp:D.Sublist S.taken) (ha:a ∈ S.taken) (c:CountIn S W1 D i a k W) (hk:(kz (ow S.words) S.sizes a)[k]? = some (b:Int)) :
    b ∈ S.taken/\b+1 < W.length /\ -1000000<=ow W (b+1)/\ow W (b+1)<=100000/\CountIn S W1 D i a (k+1) (W.set (b+1) (ow W (b+1)-1)):=by
  obtain ⟨b',hb,e,_⟩:=h.cells.kids a ha _ (List.mem_of_getElem? hk);have:b=b':=by omega
  subst this;have pb:=h.part hb;have hl:=c.len;have hlt:b+1 < W.length:=by omega
  have u:=h.uses_le hb;have e1:=m.k1 b hb 1 (by omega) (by omega);have cc:=c.cnt b hb;have ct:=cnt_take_le h (fun x hx=>hp.subset hx) (hp.nodup (up_nodup h.up)) hp b i;have cl:(((kz (ow S.words) S.sizes a).take k).count (b:Int))<=12:=by
   refine Nat.le_trans List.count_le_length ?_;rw [List.length_take];have:=kz_len (f:=ow S.words) (z:=S.sizes) (a:=a);have:=h.part ha;omega
  refine ⟨hb,hlt,by omega,by omega,⟨by simpa using hl,fun j hj=>?_,fun x hx=>?_⟩⟩
  . rw [ow_set_ne hlt (hj b hb)];exact c.other j hj
  have ec:((kz (ow S.words) S.sizes a).take (k+1)).count (x:Int)=((kz (ow S.words) S.sizes a).take k).count (x:Int)+(if b=x then 1 else 0):=by
   rw [List.take_add_one,hk,List.count_append]
   congr 1
   by_cases e:b=x
   . subst e;simp
   have:((b:Int) == (x:Int))=false:=by simp;omega
   simp [List.count_cons,this,e]
  rw [ec]
  by_cases e:x=b
  . subst e;rw [ow_set_eq hlt,if_pos rfl,cc]
    push_cast
    omega
  rw [ow_set_ne hlt (by omega),if_neg (fun q=>e q.symm),c.cnt x hx];simp
end
end Hp
namespace Hp
def toL (m:Nat->Nat) (T:List Nat) (j:Nat):List Int:=(T.take j).map (fun a=>((m a:Nat):Int)) ++ List.replicate (T.length-j) 0
theorem toL_zero (m:Nat->Nat) (T:List Nat):toL m T 0=List.replicate T.length 0:=by simp [toL]
theorem toL_all (m:Nat->Nat) (T:List Nat):toL m T T.length=T.map fun a=>((m a:Nat):Int):=by simp [toL]
theorem toL_len {m:Nat->Nat} (h:j<=T.length):(toL m T j).length=T.length:=by
 simp [toL]
 omega
theorem toL_get {m:Nat->Nat} (h:T[i]? = some a) (hij:i < j):rd (toL m T j) i=some ((m a:Nat):Int):=by
 have hl:=(List.getElem?_eq_some_iff.1 h).1
 unfold rd toL
 rw [List.getElem?_append_left (by simp;omega),List.getElem?_map,List.getElem?_take,if_pos hij,h]
 rfl
theorem toL_set {m:Nat->Nat} (h:T[j]? = some a):(toL m T j).set j ((m a:Nat):Int)=toL m T (j+1):=by
 obtain ⟨hl,rfl⟩:=List.getElem?_eq_some_iff.1 h
 unfold toL
 rw [List.take_succ_eq_append_getElem hl,List.map_append,List.append_assoc,List.set_append_right _ _ (by simp;omega),show T.length-j=(T.length-(j+1))+1 by omega,List.replicate_succ]
 have:j-((T.take j).map fun a=>((m a:Nat):Int)).length=0:=by simp;omega
 rw [this]
 simp
theorem pairs_succ {m:Nat->Nat} (h:T[j]? = some a):pairsOf m (T.take (j+1))=pairsOf m (T.take j) ++ (if m a ≠ a then [(a:Int),(m a:Int)] else []):=by
 obtain ⟨hl,rfl⟩:=List.getElem?_eq_some_iff.1 h
 unfold pairsOf
 rw [List.take_succ_eq_append_getElem hl,List.flatMap_append,List.flatMap_cons,List.flatMap_nil,List.append_nil]
theorem pairs_len {m:Nat->Nat}:∀ {T:List Nat},(pairsOf m T).length<=2 * T.length
 | []=>by simp [pairsOf]
 | a :: r=>by
  have:=pairs_len (m:=m) (T:=r);unfold pairsOf at this ⊢;rw [List.flatMap_cons,List.length_append,List.length_cons];have h2:(if m a ≠ a then [(a:Int),(m a:Int)] else []).length<=2:=by split <;> simp
  omega
theorem map_rd {m:Nat->Nat} (h:T[i]? = some a):rd (T.map fun a=>((m a:Nat):Int)) i=some ((m a:Nat):Int):=by
 simp [rd,h]
end Hp
namespace Hp
def fillL (f:Int->Int) (A:List Int) (j:Nat):List Int:=(A.take j).map f ++ List.replicate (A.length-j) 0
theorem fillL_zero (f:Int->Int) (A:List Int):fillL f A 0=List.replicate A.length 0:=by simp [fillL]
theorem fillL_all (f:Int->Int) (A:List Int):fillL f A A.length=A.map f:=by simp [fillL]
theorem fillL_len {f:Int->Int} (h:j<=A.length):(fillL f A j).length=A.length:=by
 simp [fillL]
 omega
theorem fillL_set {f:Int->Int} (h:rd A j=some x):(fillL f A j).set j (f x)=fillL f A (j+1):=by
 unfold rd at h
 obtain ⟨hl,rfl⟩:=List.getElem?_eq_some_iff.1 h
 unfold fillL
 rw [List.take_succ_eq_append_getElem hl,List.map_append,List.append_assoc,List.set_append_right _ _ (by simp;omega),show A.length-j=(A.length-(j+1))+1 by omega,List.replicate_succ]
 have:j-((A.take j).map f).length=0:=by simp;omega
 rw [this]
 simp
theorem fillL_skip {f:Int->Int} (h:rd A j=some x) (h0:f x=0):fillL f A (j+1)=fillL f A j:=by
 unfold rd at h
 obtain ⟨hl,rfl⟩:=List.getElem?_eq_some_iff.1 h
 unfold fillL
 rw [List.take_succ_eq_append_getElem hl,List.map_append,List.append_assoc,show A.length-j=(A.length-(j+1))+1 by omega,List.replicate_succ]
 simp [h0]
def scanP:List Int->Int->Int->Int
 | a :: b :: r,x,cur=>scanP r x (if a=x then b else cur)
 | _,_,cur=>cur
def keptF (Y P:List Int) (x:Int):Int:=if Y.contains x then scanP P x x else 0
theorem scanP_none:∀ {T:List Nat} {m:Nat->Nat} {a:Nat} {cur:Int},a ∉ T->scanP (pairsOf m T) a cur=cur
 | [],_,_,_,_=>rfl
 | b :: T,m,a,cur,h=>by
  have hb:b ≠ a:=fun e=>h (by simp [e])
  have ht:a ∉ T:=fun e=>h (by simp [e])
  have ih:=scanP_none (m:=m) (cur:=cur) ht;unfold pairsOf at ih ⊢;rw [List.flatMap_cons]
  by_cases e:m b=b
  . rw [if_neg (by simp [e])];exact ih
  rw [if_pos e];show scanP _ _ (if (b:Int)=(a:Int) then _ else _)=cur;rw [if_neg (by omega)];exact ih
theorem scanP_pairs:∀ {T:List Nat} {m:Nat->Nat} {a:Nat},T.Nodup->a ∈ T->scanP (pairsOf m T) a a=((m a:Nat):Int)
 | [],_,_,_,h=>by cases h
 | b :: T,m,a,hn,h=>by
  obtain ⟨d1,d2⟩:=List.nodup_cons.1 hn
  by_cases eb:b=a
  . subst eb;unfold pairsOf;rw [List.flatMap_cons]
    by_cases e:m b=b
    . rw [if_neg (by simp [e])];have:=scanP_none (m:=m) (cur:=(b:Int)) d1;unfold pairsOf at this;rw [List.nil_append,this,e]
    rw [if_pos e];show scanP _ _ (if (b:Int)=(b:Int) then _ else _)=_;rw [if_pos rfl];exact scanP_none d1
  have ht:a ∈ T:=by
   rcases List.mem_cons.1 h with rfl | h
   . exact absurd rfl eb
   exact h
  have ih:=scanP_pairs (m:=m) d2 ht;unfold pairsOf at ih ⊢;rw [List.flatMap_cons]
  by_cases e:m b=b
  . rw [if_neg (by simp [e])];exact ih
  rw [if_pos e];show scanP _ _ (if (b:Int)=(a:Int) then _ else _)=_;rw [if_neg (by omega)];exact ih
theorem scanP_step {P:List Int} {cur a b:Int} (ha:rd P k=some a) (hb:rd P (k+1)=some b):scanP (P.drop k) x cur=scanP (P.drop (k+2)) x (if a=x then b else cur):=by
 unfold rd at ha hb
 obtain ⟨h1,rfl⟩:=List.getElem?_eq_some_iff.1 ha
 obtain ⟨h2,rfl⟩:=List.getElem?_eq_some_iff.1 hb
 rw [List.drop_eq_getElem_cons h1,List.drop_eq_getElem_cons h2]
 rfl
theorem scanP_end {P:List Int} {cur:Int} (h:P.length<=k+1):scanP (P.drop k) x cur=cur:=by
 have hl:(P.drop k).length<=1:=by simp;omega
 generalize P.drop k=Q at hl
 match Q,hl with
 | [],_=>rfl
 | [_],_=>rfl
 | _ :: _ :: _,hl=>simp at hl
end Hp
end Go.Proofs.YtdokmmhjmclmnaaGreat
