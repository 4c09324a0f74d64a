/-
  Part 27 of a proof: GR1 GR2 GR3 GR4 GR6.
-/
import Derived.BigRegion
import Derived.Test.YtdokmmhjmclmnaaGreatMV18
import Derived.Test.YtdokmmhjmclmnaaGreatMV19
import Derived.Test.YtdokmmhjmclmnaaGreatMV20
import Derived.Test.YtdokmmhjmclmnaaGreatMV21
set_option linter.unusedSimpArgs false
set_option linter.unusedVariables false
set_option linter.unusedSectionVars false
set_option linter.unnecessarySimpa false
namespace Go.Proofs.YtdokmmhjmclmnaaGreat
variable {W' w w' w0 wb:World} {B a b base c cap ce cn f g gb i j k lb m n oc s sc:Nat} {choice t x:Int} {G W fs l o xs z:List Int} {L:List Hp.Tl} {r:Rd} {S S':Hp.Hs} {A N T:List Nat} {M:List (Nat × Int)} {op p pe pn q sp:Option Addr} {d:Hd} {acts:List Hp.Act'}
open Go.RowKit Go.Maps
theorem Hp.Tw.pick_ (h:Hp.Tw S L):pick false L=cellsI S:=by
 unfold cellsI
 rw [h.taken]
 exact pick_cells L
set_option maxRecDepth 100000 in
set_option maxHeartbeats 4000000 in
theorem rWhich_t (h:RAt w r S) (hz:Hp.Fr S.sizes) (hi:S.words.length<=100000) (hL:Hp.Tiles (Hp.ow S.words) S.sizes L S.words.length) (b:Bool) :
    Calls Tryz.prog 139 #[.pointer (some ⟨r.rb,0,none⟩),.bool b] w (ListPost w (pick b L)):=by
  obtain ⟨n,hn⟩:∃ n,S.words.length=n:=⟨_,rfl⟩
  have EN:=hZ hn;have H:=hZ h;have HL:=hZ hL;have hLn:=Hp.lay_len_ hL.lay;rw [hn] at hi hLn;clear h hL hn;go_enter Tryz.func139,Tryz.ntmps139
  go_wp2_with fail
  go_loopg [5,6] L.length (fun g o i wr=>∃ (P Q:List Hp.Tl) (s:Nat) (p:Option Addr) (c:Nat),Q.length<=g/\i = .int .i64 s/\s<=n/\o = .slice p (pick b P).length c/\Hid (L=P ++ Q)/\Hid (Hp.Lay s Q n)/\Hid (Row wr w.heap.size p c (pick b P))/\Hid (Ext w wr))
  case atStart=>exact ⟨[],L,17,none,0,Nat.le_refl _,rfl,by omega,rfl,hZ rfl,hZ (by rw [<- EN.out];exact HL.out.lay),hZ (Row.nil _ _),hZ (Ext.refl w)⟩
  case round=>
   obtain ⟨P,Q,s,p,c,hg,rfl,hs,rfl,EL,LQ,R,E⟩:=hrel;have N:=hZ (H.out.ext E.out);have c2:=N.out.c2;have hle:=N.out.words.le;have hcap:=N.out.words.cap;rw [EN.out] at c2 hle
   cases Q with
   | nil=>
    have:s=n:=LQ.out;subst this;have tk:decide ((s:Int) < (s:Int))=false:=dF;have hP:P=L:=by rw [EL.out,List.append_nil]
    subst hP
    go_wp2_with fail
    go_returns;exact ⟨p,c,rfl,R.out,E.out⟩
   | cons t Q=>
    have htL:t ∈ L:=by rw [EL.out];simp
    have hok:=HL.out.ok t htL;obtain ⟨q1,q2,q3⟩:=LQ.out;have q4:=q3.le;subst q1;have hta:t.a+t.k<=S.words.length:=(HL.out.lay.mem htL).2.1;have gx:=N.out.get (j:=t.a) (by omega);have tk:decide ((t.a:Int) < (n:Int))=true:=dT;have EL2:Hid (L=(P ++ [t]) ++ Q):=hZ (by rw [EL.out];simp);have LQ2:=hZ q3;have HTA:=hZ hta;have plen:=pick_len b P;have hPL:P.length<=L.length:=by rw [EL.out];simp
    have hnext:IntKind.i64.wrap ((t.a:Int)+(t.k:Int))=((t.a+t.k:Nat):Int):=by rw [Int.natCast_add];exact IntWalk.i64_in _ (by omega)
    have HNX:=hZ hnext;simp only [List.length_cons] at hg
    cases hf:t.fr with
    | true=>
     have hfr:=hok.free hf;have LONG:=hZ (fun W (hW:Ext w W)=>rLong_free (H.out.ext hW) (a:=t.a) (by omega) hfr.1 hfr.2);rw [hfr.1] at gx
     cases b with
     | true=>
      have EP:pick true (P ++ [t])=pick true P ++ [(t.a:Int)]:=by rw [pick_snoc,hf];rfl
      have RA:=hZ (R.out.ext (Ext.alloc (Ext.refl _) (.cells #[.int .i64 t.a] 3)));clear hfr hok hta q3 LQ EL hnext hf htL
      go_wp2_with (first
       | (go_at_call 67;refine (LONG.out _ E8).mono ?_;rintro e w1 ⟨rfl,hb1⟩;obtain ⟨hc1,hf1,hs1⟩:=hb1.cells)
       | (at_builtin;refine wpList_append_int rfl _ _ rfl (y:=(t.a:Int)) rfl rfl RA.out (by go_simp) (by omega) (by omega) (by omega) (by have:=E.out.le;simp;omega) ?_;intro g8 c8 x8 hR8 hG8;obtain ⟨row,hgr,hrow⟩:=id hG8;have E8:Ext w x8:=ext_grow (E.out.alloc _) hgr hrow;have N8:=hZ (H.out.ext E8);have c28:=N8.out.c2;have R8H:=hZ hR8))
      go_roundg Q.length
      case measure=>omega
      case rel=>exact ⟨P ++ [t],Q,t.a+t.k,some ⟨g8,0,none⟩,c8,Nat.le_refl _,by go_num,by omega,by rw [EP];simp,EL2,LQ2,hZ (by rw [EP];exact R8H.out.ext hb1),hZ (E8.trans hb1)⟩
     | false=>
      have EP:pick false (P ++ [t])=pick false P:=by rw [pick_snoc,hf];simp
      clear hfr hok hta q3 LQ EL hnext hf htL
      go_wp2_with (go_at_call 67;refine (LONG.out _ E.out).mono ?_;rintro e w1 ⟨rfl,hb1⟩;obtain ⟨hc1,hf1,hs1⟩:=hb1.cells)
      go_roundg Q.length
      case measure=>omega
      case rel=>exact ⟨P ++ [t],Q,t.a+t.k,p,c,Nat.le_refl _,by go_num,by omega,by rw [EP],EL2,LQ2,hZ (by rw [EP];exact R.out.ext hb1),hZ (E.out.trans hb1)⟩
    | false=>
     have hcl:=hok.cell hf;have hto:=Hp.okTag_le hz hcl.1;have LONG:=hZ (fun W (hW:Ext w W)=>hcl.2 ▸ rLong_cell (H.out.ext hW) hz (a:=t.a) (by omega) hcl.1);have t0:(Hp.ow S.words t.a == 0)=false:=by simp;omega
     cases b with
     | false=>
      have EP:pick false (P ++ [t])=pick false P ++ [(t.a:Int)]:=by rw [pick_snoc,hf];rfl
      have RA:=hZ (R.out.ext (Ext.alloc (Ext.refl _) (.cells #[.int .i64 t.a] 3)));clear hcl hto hok hta q3 LQ EL hnext hf htL;generalize Hp.ow S.words t.a=x at *
      go_wp2_with (first
       | (go_at_call 67;refine (LONG.out _ E8).mono ?_;rintro e w1 ⟨rfl,hb1⟩;obtain ⟨hc1,hf1,hs1⟩:=hb1.cells)
       | (at_builtin;refine wpList_append_int rfl _ _ rfl (y:=(t.a:Int)) rfl rfl RA.out (by go_simp) (by omega) (by omega) (by omega) (by have:=E.out.le;simp;omega) ?_;intro g8 c8 x8 hR8 hG8;obtain ⟨row,hgr,hrow⟩:=id hG8;have E8:Ext w x8:=ext_grow (E.out.alloc _) hgr hrow;have N8:=hZ (H.out.ext E8);have c28:=N8.out.c2;have R8H:=hZ hR8))
      go_roundg Q.length
      case measure=>omega
      case rel=>exact ⟨P ++ [t],Q,t.a+t.k,some ⟨g8,0,none⟩,c8,Nat.le_refl _,by go_num,by omega,by rw [EP];simp,EL2,LQ2,hZ (by rw [EP];exact R8H.out.ext hb1),hZ (E8.trans hb1)⟩
     | true=>
      have EP:pick true (P ++ [t])=pick true P:=by rw [pick_snoc,hf];simp
      clear hcl hto hok hta q3 LQ EL hnext hf htL;generalize Hp.ow S.words t.a=x at *
      go_wp2_with (go_at_call 67;refine (LONG.out _ E.out).mono ?_;rintro e w1 ⟨rfl,hb1⟩;obtain ⟨hc1,hf1,hs1⟩:=hb1.cells)
      go_roundg Q.length
      case measure=>omega
      case rel=>exact ⟨P ++ [t],Q,t.a+t.k,p,c,Nat.le_refl _,by go_num,by omega,by rw [EP],EL2,LQ2,hZ (by rw [EP];exact R.out.ext hb1),hZ (E.out.trans hb1)⟩
theorem rCells0_t (h:RAt w r S) (hz:Hp.Fr S.sizes) (hi:S.words.length<=100000) (hL:Hp.Tiles (Hp.ow S.words) S.sizes L S.words.length) :
    Calls Tryz.prog 82 #[.pointer (some ⟨r.rb,0,none⟩)] w (ListPost w (pick false L)):=by
  have HC:=hZ (rWhich_t h hz hi hL false);clear h hz hL;go_enter Tryz.func82,Tryz.ntmps82
  go_wp2_with (go_at_call 139;refine HC.out.mono ?_;rintro e w1 ⟨p,c,rfl,hR,hE⟩)
  go_returns;exact ⟨p,c,rfl,hR,hE⟩
theorem rFree_t (h:RAt w r S) (hz:Hp.Fr S.sizes) (hi:S.words.length<=100000) (hL:Hp.Tiles (Hp.ow S.words) S.sizes L S.words.length) :
    Calls Tryz.prog 84 #[.pointer (some ⟨r.rb,0,none⟩)] w (ListPost w (pick true L)):=by
  have HC:=hZ (rWhich_t h hz hi hL true);clear h hz hL;go_enter Tryz.func84,Tryz.ntmps84
  go_wp2_with (go_at_call 139;refine HC.out.mono ?_;rintro e w1 ⟨p,c,rfl,hR,hE⟩)
  go_returns;exact ⟨p,c,rfl,hR,hE⟩
theorem rCells_t (h:RAt w r S) (hw:Hp.Tw S L):Calls Tryz.prog 82 #[.pointer (some ⟨r.rb,0,none⟩)] w (ListPost w (cellsI S)):=by
 rw [<- hw.pick_]
 exact rCells0_t h hw.fr.toFr hw.hi hw.parts
theorem rIs_t (h:RAt w r S) (hw:Hp.Tw S L) (x:Int):Calls Tryz.prog 26 #[.pointer (some ⟨r.rb,0,none⟩),.int .i64 x] w fun e w'=>e = .returned (.bool ((cellsI S).contains x))/\Ext w w':=by
 have HC:=hZ (rCells_t h hw)
 obtain ⟨b,hb⟩:∃ b,(cellsI S).contains x=b:=⟨_,rfl⟩
 rw [hb]
 have HB:=hZ hb
 clear h hw hb
 go_enter Tryz.func26,Tryz.ntmps26
 go_wp2_with (first
  | (go_at_call 82;refine HC.out.mono ?_;rintro e w1 ⟨p,c,rfl,hR,hE⟩;have SA:=hZ hR.at_)
  | (go_at_call 85;refine (rHas_is HB.out SA.out).mono ?_;rintro e w2 ⟨rfl,hE2⟩))
 go_returns
 exact ⟨rfl,hE.trans hE2⟩
theorem fieldAt_t (h:RAt w r S) (hw:Hp.Tw S L) (ha:a ∈ S.taken):SliceAt w (some ⟨r.gb,r.go+(a+4),none⟩) (r.wc-(a+4)) (Hp.fz (Hp.ow S.words) S.sizes a):=by
 have pa:=hw.part ha
 have hle:=h.words.le
 have hcap:=h.words.cap
 obtain ⟨b,o,e,hb,hc⟩:=h.words.cells (by omega)
 cases e
 refine ⟨by rw [Hp.fz_length];omega,by omega,fun x hx=>?_,fun _=>⟨r.gb,r.go+(a+4),rfl,hb,fun j x hx=>?_⟩⟩
 . obtain ⟨k,_,rfl⟩:=Hp.mem_cut.1 hx;exact ow_bd h.words.wf _
 have hj:=rd_lt hx
 rw [Hp.fz_length] at hj
 unfold Hp.rd Hp.fz at hx
 rw [Hp.cut_get hj] at hx
 cases hx
 have:=hc (a+4+j) _ (Hp.rd_ow (by omega))
 rw [Nat.add_assoc,Nat.add_assoc]
 rw [Nat.add_assoc] at this
 exact this
set_option maxHeartbeats 2000000 in
theorem rField_t (h:RAt w r S) (hw:Hp.Tw S L) (ha:a ∈ S.taken) :
    Calls Tryz.prog 88 #[.pointer (some ⟨r.rb,0,none⟩),.int .i64 a] w fun e w'=>e = .returned (.slice (some ⟨r.gb,r.go+(a+4),none⟩) (Hp.fz (Hp.ow S.words) S.sizes a).length (r.wc-(a+4)))/\Ext w w':=by
  have pa:=hw.part ha;have hle:=h.words.le;have hcap:=h.words.cap;have LONG:=hZ (fun W (hW:Ext w W)=>rLong_cell (h.ext hW) hw.fr.toFr (a:=a) (by omega) (hw.tags ha));rw [Hp.fz_length];have c2:=h.c2;have hlt:=h.lt;have hhi:=hw.hi;clear h hw ha;generalize S.words.length=n at *;generalize hk:Hp.wz S.sizes (Hp.ow S.words a)=k at *;clear hk;have s1:IntKind.i64.wrap ((a:Int)+4)=(a:Int)+4:=IntWalk.i64_in _ (by omega);have s2:IntKind.i64.wrap ((a:Int)+(k:Int))=(a:Int)+(k:Int):=IntWalk.i64_in _ (by omega);have s3:(0:Int)<=(a:Int)+4:=by omega
  have s4:(a:Int)+4<=(a:Int)+(k:Int):=by omega
  have s5:(a:Int)+(k:Int)<=(r.wc:Int):=by omega
  have s6:((a:Int)+4).toNat=a+4:=by omega
  have s7:((a:Int)+(k:Int)).toNat=a+k:=by omega
  have s8:a+k-(a+4)=k-4:=by omega
  have cne:¬ r.wc=a+4:=by omega
  go_enter Tryz.func88,Tryz.ntmps88
  go_wp2_with fail
  have pr51a:=fun u_ (h_:Ext w u_)=>(h_.cell hlt 2).trans c2
  refine wp_region_seq (S:=fun W=>Ext w W) (R:=Ext) (by kernel_rfl) Ext.refl ?_ ?_
  . exact exx
  refine' tkL 0 ?_;refine' tkL 1 ?_;refine' tkL 2 ?_;refine' tkL 3 ?_;refine' tkL 4 ?_;refine' tkL 5 ?_;refine' tkL 6 ?_;refine' tkL 7 ?_;refine' tkL 8 ?_;refine' tkR 9 (v:=.int .i64 k) rfl (Or.inr ⟨by rfl,67,_, ?hx9_1107, ?hy9_1107⟩) ?rest9_1107
  case hx9_1107=>(intro w hSw;go_simp;try with_reducible rfl)
  case hy9_1107=>exact fun w hE=>(LONG.out _ hE).mono (fun _ _ h=>⟨h.1,h.2,Ext.trans hE h.2⟩)
  refine layy ?_;refine' tkL 10 ?_;refine' tkL 11 ?_;refine' tkL 12 ?_;refine wpAnyR_done (by kernel_rfl) ?_ _;intro x1 _ Ex1;clear pr51a;go_wp2;go_returns;exact ⟨rfl,exx⟩
set_option maxHeartbeats 2000000 in
theorem rRank_t (h:RAt w r S) (hw:Hp.Tw S L) (ha:a ∈ S.taken) :
    Calls Tryz.prog 172 #[.pointer (some ⟨r.rb,0,none⟩),.int .i64 a] w fun e w'=>e = .returned (.int .i64 (Hp.rank S.order (Hp.ow S.words a)))/\Ext w w':=by
  have pa:=hw.part ha;have ht:=hw.tags ha;have hto:=hw.tag_le ha;have few:=hw.fr.few;have NODE:=hZ (fun W (hW:Ext w W)=>rIsNode (h.ext hW) (a:=a) (by omega))
  cases he:Hp.isEnd (Hp.ow S.words a) with
  | true=>
   have e:Hp.rank S.order (Hp.ow S.words a)=S.order.length:=by simp [Hp.rank,he]
   rw [e];simp only [Hp.isEnd,Hp.within,Bool.and_eq_true,decide_eq_true_eq] at he;have NODE2:=hZ (fun W (hW:Ext w W)=>(decide_eq_false (by omega:¬ Hp.ow S.words a < 20)) ▸ NODE.out W hW);have H:=hZ h;have hcap:=h.order.cap;have hle:=h.order.le;clear h hw ha ht he e NODE pa;go_enter Tryz.func172,Tryz.ntmps172
   go_wp2_with (go_at_call 87;refine (NODE2.out _ (exx)).mono ?_;rintro e w1 ⟨rfl,hb1⟩;obtain ⟨hc1,hf1,hs1⟩:=hb1.cells;have c1:=(H.out.ext hb1).c1)
   go_returns;exact ⟨rfl,exx⟩
  | false=>
   have hn:=Hp.isNode_of ht he;have hm:=order_mem hw.fr hn;obtain ⟨k,e1,e2,e3⟩:=index_spec hm;rw [rank_node (z:=S.sizes) he,e1];have PL:=hZ (fun W (hW:Ext w W)=>rPlace (h.ext hW) e2 e3);simp only [Hp.isNode,Hp.within,Bool.and_eq_true,decide_eq_true_eq] at hn;have NODE2:=hZ (fun W (hW:Ext w W)=>(decide_eq_true (by omega:Hp.ow S.words a < 20)) ▸ NODE.out W hW);have H:=hZ h;have gx:=h.get (j:=a) (by omega);have hlt:=h.lt;have c2:=h.c2;have hle:=h.words.le;have hcap:=h.words.cap;obtain ⟨bb,o',hp',hbb,_⟩:=h.words.cells (by omega)
   cases hp'
   have al:a < S.words.length:=by omega
   clear h hw ha ht he e1 e2 e3 NODE hm pa;generalize S.words.length=n at *;generalize Hp.ow S.words a=x at *;go_enter Tryz.func172,Tryz.ntmps172
   go_wp2_with (first
    | (go_at_call 87;refine (NODE2.out _ (exx)).mono ?_;rintro e w1 ⟨rfl,hb1⟩;obtain ⟨hc1,hf1,hs1⟩:=hb1.cells;have c2':=(hb1.cell hlt 2).trans c2;have gx':=(hb1.cell hbb (r.go+a)).trans gx)
    | (go_at_call 173;refine (PL.out _ (exx)).mono ?_;rintro e w2 ⟨rfl,hb2⟩;obtain ⟨hc2,hf2,hs2⟩:=hb2.cells))
   go_returns;exact ⟨rfl,exx⟩
theorem rAt_end_t (h:RAt w r S) (hw:Hp.Tw S L) (ha:a ∈ S.taken) (he:Hp.isEnd (Hp.ow S.words a)=true) :
    Calls Tryz.prog 28 #[.pointer (some ⟨r.rb,0,none⟩),.int .i64 a] w fun e w'=>e = .returned (.tuple #[.agg #[.int .i64 (-1),.slice none 0 0],.agg #[.int .u8 (Hp.ow S.words a-20),.int .i64 (Hp.ow S.words (a+4))]])/\Ext w w':=by
  have pa:=hw.part ha;have te:20<=Hp.ow S.words a/\Hp.ow S.words a<=24:=by
   unfold Hp.isEnd Hp.within at he
   simpa using he
  exact rAt_end0 h hw.hi (by omega) te
theorem up_lt {l:List Nat} (h:l.Pairwise (· < ·)) {x y:Nat} (hi:l[i]? = some x) (hj:l[j]? = some y) (hxy:x < y):i < j:=by
 obtain ⟨i1,rfl⟩:=List.getElem?_eq_some_iff.1 hi
 obtain ⟨j1,rfl⟩:=List.getElem?_eq_some_iff.1 hj
 rcases Nat.lt_trichotomy i j with e | e | e
 . exact e
 . subst e;omega
 have:=List.pairwise_iff_getElem.1 h j i j1 i1 e
 omega
set_option maxRecDepth 100000 in
set_option maxHeartbeats 4000000 in
theorem rSame_t (h:RAt w r S) (hw:Hp.Tw S L) (ha:a ∈ S.taken) {qc:Nat} (hq:SliceAt w q qc (Hp.fz (Hp.ow S.words) S.sizes a)) :
    Calls Tryz.prog 133 #[.pointer (some ⟨r.rb,0,none⟩),.int .i64 (Hp.ow S.words a),.slice q (Hp.fz (Hp.ow S.words) S.sizes a).length qc] w fun e w'=>∃ v:Int,e = .returned (.int .i64 v)/\Ext w w'/\(v=(a:Int) -> ∀ b ∈ S.taken,b < a -> ¬ (Hp.ow S.words b=Hp.ow S.words a/\Hp.fz (Hp.ow S.words) S.sizes b=Hp.fz (Hp.ow S.words) S.sizes a)):=by
  have pa17:=(hw.part ha).2.1;have CELLS:=hZ (rCells_t h hw);have FLD:=hZ (fun b (hb:b ∈ S.taken) W (hW:Ext w W)=>rField_t (h.ext hW) hw hb);have FAT:=hZ (fun b (hb:b ∈ S.taken) W (hW:Ext w W)=>fieldAt_t (h.ext hW) hw hb);have HQ:=hZ hq;have H:=hZ h;have HW:=hZ hw;have few:=hw.few;have hhi:=hw.hi;have hle:=h.words.le;have hcap:=h.words.cap;have hlt:=h.lt;have qcap:=hq.cap;obtain ⟨gbb,o',hp',hbb,_⟩:=h.words.cells (by have:=hw.lo;omega)
  cases hp'
  obtain ⟨fs,hfs⟩:∃ fs,Hp.fz (Hp.ow S.words) S.sizes a=fs:=⟨_,rfl⟩
  have HFS:=hZ hfs;obtain ⟨t,ht⟩:∃ t,Hp.ow S.words a=t:=⟨_,rfl⟩
  have HT:=hZ ht;have c2:=h.c2;obtain ⟨n,hn⟩:∃ n,S.words.length=n:=⟨_,rfl⟩
  have EN:=hZ hn;rw [hfs,ht];rw [hn] at c2 hle hhi;have HA:=hZ ha;have qle:=hq.le;rw [hfs] at qle;clear h hw hq hfs ht hn ha;obtain ⟨m,hm⟩:∃ m,S.taken.length=m:=⟨_,rfl⟩
  have EM:=hZ hm;rw [hm] at few;clear hm;go_enter Tryz.func133,Tryz.ntmps133
  go_wp2_with (go_at_call 82;refine CELLS.out.mono ?_;rintro e w1 ⟨p,c,rfl,hR,hE⟩;rw [cellsI_len,EM.out];have RR:=hZ hR.at_;have E1:=hZ hE)
  clear hR hE CELLS;have lle:=RR.out.le;have lcap:=RR.out.cap;rw [cellsI_len,EM.out] at lle
  go_loopg [8] m (fun g i wr=>∃ j:Nat,j<=m/\m-j<=g/\i = .int .i64 j/\Hid (Ext w1 wr)/\Hid (∀ i b,i < j->S.taken[i]? = some b -> ¬ (Hp.ow S.words b=t/\Hp.fz (Hp.ow S.words) S.sizes b=fs)))
  case atStart=>exact ⟨0,Nat.zero_le _,by omega,rfl,hZ (Ext.refl _),hZ (fun i b hi=>absurd hi (Nat.not_lt_zero _))⟩
  case round=>
   obtain ⟨j,hj,hg,rfl,E,A⟩:=hrel
   by_cases hlt2:j < m
   . obtain ⟨b,hb,hbj,hrd⟩:=cellsI_rd (S:=S) (j:=j) (by rw [EM.out];exact hlt2);obtain ⟨lb,lo,hlp,hlbb,hlc⟩:=(RR.out.ext E.out).cells (by rw [cellsI_len,EM.out];omega);have gl:=hlc j _ hrd;have Ew:=E1.out.trans E.out;have c2w:=(Ew.cell hlt 2).trans c2;have gw:=(H.out.ext Ew).get (j:=b) (by have:=HW.out.part hb;omega);have pb:=HW.out.part hb;rw [EN.out] at pb;have zb:r.rb < wr.heap.size:=Nat.lt_of_lt_of_le hlt Ew.le;have zg:r.gb < wr.heap.size:=Nat.lt_of_lt_of_le hbb Ew.le;have b1:b < n:=by omega
     have EW:=hZ Ew;have HB:=hZ hb;have HBJ:=hZ hbj;have FLB:=hZ (fun W (hW:Ext w W)=>FLD.out b hb W hW);have FAB:=hZ (fun W (hW:Ext w W)=>FAT.out b hb W hW);obtain ⟨fl,hfl⟩:∃ fl,(Hp.fz (Hp.ow S.words) S.sizes b).length=fl:=⟨_,rfl⟩
     have EFL:=hZ hfl;have tk:decide ((j:Int) < (m:Int))=true:=dT;clear hrd hlc hbj hb pb hfl;subst hlp
     by_cases hbs:Hp.ow S.words b=t/\Hp.fz (Hp.ow S.words) S.sizes b=fs
     . obtain ⟨hbt,hbf⟩:=hbs;rw [hbt] at gw;have HBF:=hZ hbf;have t0:(t == t)=true:=by simp
       have FLB2:Hid (∀ W,Ext w W->Calls Tryz.prog 88 #[.pointer (some ⟨r.rb,0,none⟩),.int .i64 b] W fun e w'=>e = .returned (.slice (some ⟨r.gb,r.go+(b+4),none⟩) fs.length (r.wc-(b+4)))/\Ext W w'):=hZ (fun W hW=>by rw [<- HBF.out];exact FLB.out W hW);have SM:Hid (∀ W,Ext w W->Calls Tryz.prog 24 #[.slice (some ⟨r.gb,r.go+(b+4),none⟩) fs.length (r.wc-(b+4)),.slice q fs.length qc] W fun e w'=>e = .returned (.bool true)/\Ext W w'):=hZ (fun W hW=>by
        have:=dSame_is (b:=true) (decide_eq_true (HBF.out.trans HFS.out.symm)) (FAB.out W hW) (HQ.out.ext hW);rw [HBF.out,HFS.out] at this;exact this)
       clear hbt hbf
       go_wp2_with fail
       have pr52a:=fun u_ (h_:Ext wr u_)=>(h_.cell zb 2).trans c2w
       have pr52b:=fun u_ (h_:Ext wr u_)=>(h_.cell hlbb (lo+j)).trans gl
       have pr52c:=fun u_ (h_:Ext wr u_)=>(h_.cell zg (r.go+b)).trans gw
       refine wp_region_seq (S:=fun W=>Ext wr W) (R:=Ext) (by kernel_rfl) Ext.refl ?_ ?_
       . exact exx
       refine' tkL 0 ?_;refine' tkL 1 ?_;refine' tkL 2 ?_;refine' tkL 3 ?_;refine' tkL 4 ?_;refine' tkL 5 ?_;refine' tkL 6 ?_;refine' tkL 7 ?_;refine' tkL 8 ?_;refine' tkL 9 ?_;refine' tkL 10 ?_;refine' tkL 11 ?_;refine' tkL 12 ?_;refine' tkL 13 ?_;refine' tkL 14 ?_;refine' tkL 15 ?_;refine' tkL 16 ?_;refine' tkL 17 ?_;refine' tkR 18 (v:=.slice (some ⟨r.gb,r.go+(b+4),none⟩) fs.length (r.wc-(b+4))) rfl (Or.inr ⟨by rfl,88,_, ?hx18_1129, ?hy18_1129⟩) ?rest18_1129
       case hx18_1129=>(intro w hSw;go_simp;try with_reducible rfl)
       case hy18_1129=>exact fun w hE=>(FLB2.out _ (EW.out.trans hE)).mono (fun _ _ h=>⟨h.1,h.2,Ext.trans hE h.2⟩)
       refine layy ?_;refine' tkL 19 ?_;refine' tkR 20 (v:=.bool true) rfl (Or.inr ⟨by rfl,24,_, ?hx20_1131, ?hy20_1131⟩) ?rest20_1131
       case hx20_1131=>(intro w hSw;go_simp;try with_reducible rfl)
       case hy20_1131=>exact fun w hE=>(SM.out _ (EW.out.trans hE)).mono (fun _ _ h=>⟨h.1,h.2,Ext.trans hE h.2⟩)
       refine layy ?_;refine' tkL 21 ?_;refine wpAnyR_done (by kernel_rfl) ?_ _;intro x1 _ Ex1;clear pr52a pr52b pr52c;have gl2:=(Ex1.cell hlbb (lo+j)).trans gl
       go_wp2_with fail
       go_returns;refine ⟨_,rfl,EW.out.trans Ex1,fun e b' hb' hlt' hh=>?_⟩;obtain ⟨i,hi⟩:=List.mem_iff_getElem?.1 hb';exact A.out i b' (up_lt HW.out.up hi HBJ.out (by omega)) hi hh
     have A2:Hid (∀ i b,i < j+1->S.taken[i]? = some b -> ¬ (Hp.ow S.words b=t/\Hp.fz (Hp.ow S.words) S.sizes b=fs)):=hZ (fun i b' hi hb'=>by
      by_cases e:i=j
      . subst e;rw [HBJ.out] at hb'
        cases hb'
        exact hbs
      . exact A.out i b' (by omega) hb')
     by_cases hbt:Hp.ow S.words b=t
     . rw [hbt] at gw;have HBT:=hZ hbt;have HBS:=hZ hbs;have t0:(t == t)=true:=by simp
       have FLB2:Hid (∀ W,Ext w W->Calls Tryz.prog 88 #[.pointer (some ⟨r.rb,0,none⟩),.int .i64 b] W fun e w'=>e = .returned (.slice (some ⟨r.gb,r.go+(b+4),none⟩) fl (r.wc-(b+4)))/\Ext W w'):=hZ (fun W hW=>by rw [<- EFL.out];exact FLB.out W hW);have SM:Hid (∀ W,Ext w W->Calls Tryz.prog 24 #[.slice (some ⟨r.gb,r.go+(b+4),none⟩) fl (r.wc-(b+4)),.slice q fs.length qc] W fun e w'=>e = .returned (.bool false)/\Ext W w'):=hZ (fun W hW=>by
        have:=dSame_is (b:=false) (decide_eq_false (fun e=>HBS.out ⟨HBT.out,e.trans HFS.out⟩)) (FAB.out W hW) (HQ.out.ext hW);rw [HFS.out,EFL.out] at this;exact this)
       clear hbt
       go_wp2_with fail
       have pr53a:=fun u_ (h_:Ext wr u_)=>(h_.cell zb 2).trans c2w
       have pr53b:=fun u_ (h_:Ext wr u_)=>(h_.cell hlbb (lo+j)).trans gl
       have pr53c:=fun u_ (h_:Ext wr u_)=>(h_.cell zg (r.go+b)).trans gw
       refine wp_region_seq (S:=fun W=>Ext wr W) (R:=Ext) (by kernel_rfl) Ext.refl ?_ ?_
       . exact exx
       refine' tkL 0 ?_;refine' tkL 1 ?_;refine' tkL 2 ?_;refine' tkL 3 ?_;refine' tkL 4 ?_;refine' tkL 5 ?_;refine' tkL 6 ?_;refine' tkL 7 ?_;refine' tkL 8 ?_;refine' tkL 9 ?_;refine' tkL 10 ?_;refine' tkL 11 ?_;refine' tkL 12 ?_;refine' tkL 13 ?_;refine' tkL 14 ?_;refine' tkL 15 ?_;refine' tkL 16 ?_;refine' tkL 17 ?_;refine' tkR 18 (v:=.slice (some ⟨r.gb,r.go+(b+4),none⟩) fl (r.wc-(b+4))) rfl (Or.inr ⟨by rfl,88,_, ?hx18_1151, ?hy18_1151⟩) ?rest18_1151
       case hx18_1151=>(intro w hSw;go_simp;try with_reducible rfl)
       case hy18_1151=>exact fun w hE=>(FLB2.out _ (EW.out.trans hE)).mono (fun _ _ h=>⟨h.1,h.2,Ext.trans hE h.2⟩)
       refine layy ?_;refine' tkL 19 ?_;refine' tkR 20 (v:=.bool false) rfl (Or.inr ⟨by rfl,24,_, ?hx20_1153, ?hy20_1153⟩) ?rest20_1153
       case hx20_1153=>(intro w hSw;go_simp;try with_reducible rfl)
       case hy20_1153=>exact fun w hE=>(SM.out _ (EW.out.trans hE)).mono (fun _ _ h=>⟨h.1,h.2,Ext.trans hE h.2⟩)
       refine layy ?_;refine' tkL 21 ?_;refine wpAnyR_done (by kernel_rfl) ?_ _;intro x1 _ Ex1;clear pr53a pr53b pr53c;have E2:=hZ (E.out.trans Ex1)
       go_wp2_with fail
       go_roundg (m-(j+1))
       case measure=>omega
       case rel=>exact ⟨j+1,by omega,Nat.le_refl _,by go_num,E2,A2⟩
     have t0:(Hp.ow S.words b == t)=false:=by simpa using hbt
     clear hbt hbs;generalize Hp.ow S.words b=y at *
     go_wp2_with fail
     have pr54a:=fun u_ (h_:Ext wr u_)=>(h_.cell zb 2).trans c2w
     have pr54b:=fun u_ (h_:Ext wr u_)=>(h_.cell hlbb (lo+j)).trans gl
     have pr54c:=fun u_ (h_:Ext wr u_)=>(h_.cell zg (r.go+b)).trans gw
     refine wp_region_seq (S:=fun W=>Ext wr W) (R:=Ext) (by kernel_rfl) Ext.refl ?_ ?_
     . exact exx
     refine' tkL 0 ?_;refine' tkL 1 ?_;refine' tkL 2 ?_;refine' tkL 3 ?_;refine' tkL 4 ?_;refine' tkL 5 ?_;refine' tkL 6 ?_;refine' tkL 7 ?_;refine' tkL 8 ?_;refine' tkL 9 ?_;refine' tkL 10 ?_;refine' tkL 11 ?_;refine' tkL 12 ?_;refine' tkN 13 ?_;refine' tkN 14 ?_;refine' tkN 15 ?_;refine' tkN 16 ?_;refine' tkN 17 ?_;refine' tkN 18 ?_;refine' tkN 19 ?_;refine' tkN 20 ?_;refine' tkL 21 ?_;refine wpAnyR_done (by kernel_rfl) ?_ _;intro x1 _ Ex1;clear pr54a pr54b pr54c;have E2:=hZ (E.out.trans Ex1)
     go_wp2_with fail
     go_roundg (m-(j+1))
     case measure=>omega
     case rel=>exact ⟨j+1,by omega,Nat.le_refl _,by go_num,E2,A2⟩
   have:j=m:=by omega
   subst this;have tk:decide ((j:Int) < (j:Int))=false:=dF
   go_wp2_with fail
   go_returns;exact ⟨0,rfl,E1.out.trans E.out,fun e=>by omega⟩
set_option maxRecDepth 100000 in
set_option maxHeartbeats 4000000 in
theorem rCheckNode_t (h:RAt w r S) (hw:Hp.Tw S L) (ha:a ∈ S.taken) (he:Hp.isEnd (Hp.ow S.words a)=false) {qc:Nat} (hq:SliceAt w q qc (Hp.fz (Hp.ow S.words) S.sizes a)) :
    Calls Tryz.prog 135 #[.pointer (some ⟨r.rb,0,none⟩),.int .i64 (Hp.ow S.words a-1),.slice q (Hp.fz (Hp.ow S.words) S.sizes a).length qc] w fun e w'=>∃ v:Int,e = .returned (.int .i64 v)/\Ext w w'/\(v=0 -> ∀ x ∈ Hp.kz (Hp.ow S.words) S.sizes a,∃ b ∈ S.taken,x=(b:Int)/\Hp.rank S.order (Hp.ow S.words a) < Hp.rank S.order (Hp.ow S.words b)):=by
  have hkz:Hp.kz (Hp.ow S.words) S.sizes a=Hp.fz (Hp.ow S.words) S.sizes a:=by unfold Hp.kz;rw [he];rfl
  rw [hkz];clear hkz;have hn:=Hp.isNode_of (hw.tags ha) he;have hm:=order_mem hw.fr hn;obtain ⟨k,k1,k2,k3⟩:=index_spec hm;have hrk:Hp.rank S.order (Hp.ow S.words a)=(k:Int):=by rw [rank_node (z:=S.sizes) he,k1]
  have PL:=hZ (fun W (hW:Ext w W)=>rPlace (h.ext hW) k2 k3);rw [hrk];simp only [Hp.isNode,Hp.within,Bool.and_eq_true,decide_eq_true_eq] at hn;have few:=hw.fr.few;have hsz:∃ i:Nat,Hp.ow S.words a=(i:Int)+1/\i < S.sizes.length/\Hp.rd S.sizes i=some ((Hp.fz (Hp.ow S.words) S.sizes a).length:Int):=by
   refine ⟨(Hp.ow S.words a-1).toNat,by omega,by omega, ?_⟩;have hl:(Hp.ow S.words a-1).toNat < S.sizes.length:=by omega
   rw [Hp.rd_ow hl,Hp.fz_length];unfold Hp.wz;rw [he];have hp:=hw.fr.pos _ (List.getElem_mem hl);have e2:S.sizes.getD (Hp.ow S.words a-1).toNat 0=Hp.ow S.sizes (Hp.ow S.words a-1).toNat:=rfl;have e3:Hp.ow S.sizes (Hp.ow S.words a-1).toNat=S.sizes[(Hp.ow S.words a-1).toNat]:=(Hp.ow_rd (by unfold Hp.rd;rw [List.getElem?_eq_getElem hl])).1;rw [e2];simp only [Bool.false_eq_true,if_false];rw [e3] at *
   congr 1
   omega
  obtain ⟨i,hi1,hi2,hi3⟩:=hsz;have IS:=hZ (fun y W (hW:Ext w W)=>rIs_t (h.ext hW) hw y);have RK:=hZ (fun b (hb:b ∈ S.taken) W (hW:Ext w W)=>rRank_t (h.ext hW) hw hb);have H:=hZ h;have HQ:=hZ hq;have qle:=hq.le;have qcap:=hq.cap;have sle:=h.sizes.le;have scap:=h.sizes.cap;obtain ⟨sb,so,hsp,hsb,hsc⟩:=h.sizes.cells (by omega);have gs:=hsc i _ hi3;have c0:=h.c0;rw [hsp] at c0;have hlt:=h.lt;have hkb:k<=100:=by
   have:=rd_lt k2;have:=hw.fr.len;omega
  have hrl:∀ b,b ∈ S.taken->Hp.rank S.order (Hp.ow S.words b)<=100:=fun b hb=>by
   unfold Hp.rank
   split
   . have:=hw.fr.len;omega
   unfold Hp.index
   split
   . rename_i j hj;rw [List.findIdx?_eq_some_iff_getElem] at hj;have:=hj.1;have:=hw.fr.len;omega
   omega
  have HRL:=hZ hrl;rw [hi1] at PL ⊢;rw [show (i:Int)+1-1=(i:Int) by omega] at PL ⊢;obtain ⟨fs,hfs⟩:∃ fs,Hp.fz (Hp.ow S.words) S.sizes a=fs:=⟨_,rfl⟩
  rw [hfs] at gs qle HQ ⊢;obtain ⟨m,hm'⟩:∃ m,fs.length=m:=⟨_,rfl⟩
  have EM:=hZ hm';rw [hm'] at gs qle ⊢;obtain ⟨n,hn'⟩:∃ n,S.sizes.length=n:=⟨_,rfl⟩
  rw [hn'] at c0 sle few hi2;have IN:Hid (∀ W,Calls Tryz.prog 66 #[.int .i64 (i:Int),.int .i64 0,.int .i64 ((n:Int)-1)] W fun e w'=>e = .returned (.bool true)/\Ext W w'):=hZ (fun W=>by
   have:=dIn (i:Int) 0 ((n:Int)-1) W;rw [show Hp.within 0 ((n:Int)-1) (i:Int)=true by simp [Hp.within];omega] at this;exact this)
  clear h hw ha he hq hn hm k1 k2 k3 hrk hi1 hi3 hsc hsp hfs hm' hn' hrl;go_enter Tryz.func135,Tryz.ntmps135
  go_wp2_with (go_at_call 66;refine (IN.out _).mono ?_;rintro e w1 ⟨rfl,hb1⟩;obtain ⟨hc1,hf1,hs1⟩:=hb1.cells;have c0':=(hb1.cell hlt 0).trans c0;have gs':=(hb1.cell hsb (so+i)).trans gs)
  have E1:=hZ hb1;clear hb1 hc1 hf1 hs1 c0' gs'
  go_loopg [7] m (fun g s wr=>∃ j:Nat,j<=m/\m-j<=g/\s = .int .i64 j/\Hid (Ext w wr)/\Hid (∀ i y,i < j->fs[i]? = some y -> ∃ b ∈ S.taken,y=(b:Int)))
  case atStart=>exact ⟨0,Nat.zero_le _,by omega,rfl,E1,hZ (fun i y hi=>absurd hi (Nat.not_lt_zero _))⟩
  case round=>
   obtain ⟨j,hj,hg,rfl,E,A⟩:=hrel
   by_cases hlt2:j < m
   . obtain ⟨y,hy⟩:∃ y,fs[j]? = some y:=⟨_,List.getElem?_eq_getElem (by rw [EM.out];exact hlt2)⟩
     obtain ⟨qb,qo,hqp,hqb,hqc⟩:=(HQ.out.ext E.out).cells (by rw [EM.out];omega);have gq:=hqc j _ hy;have ISB:=hZ (fun W (hW:Ext w W)=>IS.out y W hW);have tk:decide ((j:Int) < (m:Int))=true:=dT;have HY:=hZ hy;clear hqc hy;subst hqp
     cases hb:(cellsI S).contains y with
     | false=>
      rw [hb] at ISB;clear hb
      go_wp2_with (go_at_call 26;refine (ISB.out _ E.out).mono ?_;rintro e w2 ⟨rfl,hE2⟩)
      go_returns;exact ⟨_,rfl,E.out.trans hE2,fun e=>by omega⟩
     | true=>
      rw [hb] at ISB;obtain ⟨b,hb1,hb2⟩:=cellsI_mem.1 (by simpa using hb);have A2:Hid (∀ i y,i < j+1->fs[i]? = some y -> ∃ b ∈ S.taken,y=(b:Int)):=hZ (fun i y' hi hy'=>by
       by_cases e:i=j
       . subst e;rw [HY.out] at hy'
         cases hy'
         exact ⟨b,hb1,hb2⟩
       . exact A.out i y' (by omega) hy')
      clear hb hb1 hb2
      go_wp2_with (go_at_call 26;refine (ISB.out _ E.out).mono ?_;rintro e w2 ⟨rfl,hE2⟩)
      have E2:=hZ (E.out.trans hE2)
      go_roundg (m-(j+1))
      case measure=>omega
      case rel=>exact ⟨j+1,by omega,Nat.le_refl _,by go_num,E2,A2⟩
   have tk:decide ((j:Int) < (m:Int))=false:=dF;have A1:Hid (∀ i y,fs[i]? = some y -> ∃ b ∈ S.taken,y=(b:Int)):=hZ (fun i y hy=>A.out i y (by have:=(List.getElem?_eq_some_iff.1 hy).1;rw [EM.out] at this;omega) hy)
   go_wp2_with fail
   clear tk hj hg hlt2 E1 A
   go_loopg [8] m (fun g s wr=>∃ j:Nat,j<=m/\m-j<=g/\s = .int .i64 j/\Hid (Ext w wr)/\Hid (∀ i y,i < j->fs[i]? = some y -> ∃ b ∈ S.taken,y=(b:Int)/\(k:Int) < Hp.rank S.order (Hp.ow S.words b)))
   case atStart=>exact ⟨0,Nat.zero_le _,by omega,rfl,E,hZ (fun i y hi=>absurd hi (Nat.not_lt_zero _))⟩
   case round=>
    obtain ⟨j,hj,hg,rfl,E,A⟩:=hrel
    by_cases hlt2:j < m
    . obtain ⟨y,hy⟩:∃ y,fs[j]? = some y:=⟨_,List.getElem?_eq_getElem (by rw [EM.out];exact hlt2)⟩
      obtain ⟨b,hb2,rfl⟩:=A1.out j y hy;obtain ⟨qb,qo,hqp,hqb,hqc⟩:=(HQ.out.ext E.out).cells (by rw [EM.out];omega);have gq:=hqc j _ hy;have RKB:=hZ (fun W (hW:Ext w W)=>RK.out b hb2 W hW);have hb4:=HRL.out b hb2;have tk:decide ((j:Int) < (m:Int))=true:=dT;have HY:=hZ hy;have HB2:=hZ hb2;clear hqc hb2 hy;obtain ⟨rk,hrk⟩:∃ rk,Hp.rank S.order (Hp.ow S.words b)=rk:=⟨_,rfl⟩
      have HRK:=hZ hrk;rw [hrk] at RKB hb4;clear hrk;subst hqp
      by_cases hle:rk<=(k:Int)
      . have t0:decide (rk<=(k:Int))=true:=decide_eq_true hle;clear hle
        go_wp2_with (first
         | (go_at_call 172;refine (RKB.out _ E.out).mono ?_;rintro e w2 ⟨rfl,hE2⟩)
         | (go_at_call 173;refine (PL.out _ (E.out.trans hE2)).mono ?_;rintro e w3 ⟨rfl,hE3⟩))
        go_returns;exact ⟨_,rfl,E.out.trans (hE2.trans hE3),fun e=>by omega⟩
      have t0:decide (rk<=(k:Int))=false:=decide_eq_false hle;have A2:Hid (∀ i y,i < j+1->fs[i]? = some y -> ∃ b ∈ S.taken,y=(b:Int)/\(k:Int) < Hp.rank S.order (Hp.ow S.words b)):=hZ (fun i y' hi hy'=>by
       by_cases e:i=j
       . subst e;rw [HY.out] at hy'
         cases hy'
         exact ⟨b,HB2.out,rfl,by rw [HRK.out];omega⟩
       . exact A.out i y' (by omega) hy')
      clear hle
      go_wp2_with (first
       | (go_at_call 172;refine (RKB.out _ E.out).mono ?_;rintro e w2 ⟨rfl,hE2⟩)
       | (go_at_call 173;refine (PL.out _ (E.out.trans hE2)).mono ?_;rintro e w3 ⟨rfl,hE3⟩))
      have E2:=hZ (E.out.trans (hE2.trans hE3))
      go_roundg (m-(j+1))
      case measure=>omega
      case rel=>exact ⟨j+1,by omega,Nat.le_refl _,by go_num,E2,A2⟩
    have tk:decide ((j:Int) < (m:Int))=false:=dF
    go_wp2_with fail
    go_returns;exact ⟨0,rfl,E.out,fun _ x hx=>by
     obtain ⟨i,hi⟩:=List.mem_iff_getElem?.1 hx;exact A.out i x (by have:=(List.getElem?_eq_some_iff.1 hi).1;rw [EM.out] at this;omega) hi⟩
set_option maxRecDepth 100000 in
set_option maxHeartbeats 16000000 in
theorem rCheckFree_t (h:RAt w r S) (hw:Hp.Tw S L) :
    Calls Tryz.prog 69 #[.pointer (some ⟨r.rb,0,none⟩)] w fun e w'=>∃ b,e = .returned (.bool b)/\Ext w w'/\(b=true->Hp.LinkedTo (Hp.ow S.words) 16 (Hp.freeOf L)/\Hp.Apart (Hp.freeOf L)/\Hp.Zeros (Hp.ow S.words) L):=by
  have FREE:=hZ (rFree_t h hw.fr.toFr hw.hi hw.parts);rw [pick_free] at FREE;have PART:Hid (∀ t ∈ Hp.freeOf L,17<=t.a/\3<=t.k/\t.a+t.k<=S.words.length/\Hp.ow S.words (t.a+1)=t.k):=hZ (fun t ht=>by
   obtain ⟨h1,h2⟩:=Hp.mem_freeOf.1 ht;have h3:=hw.parts.lay.mem h1;exact ⟨h3.1,h3.2.2,h3.2.1,((hw.parts.ok t h1).free h2).2⟩)
  have lo:=hw.lo;have hi:=hw.hi;have lln:=Hp.lay_len_ hw.parts.lay;have fl:(Hp.freeOf L).length<=L.length:=List.length_filter_le _ _;have H:=hZ h;have hle:=h.words.le;have hcap:=h.words.cap;have hlt:=h.lt;have c2:=h.c2;obtain ⟨gbb,o',hp',hbb,_⟩:=h.words.cells (by omega)
  cases hp'
  obtain ⟨n,hn⟩:∃ n,S.words.length=n:=⟨_,rfl⟩
  have EN:=hZ hn;rw [hn] at lo hi lln hle c2 PART;obtain ⟨F,hF⟩:∃ F,Hp.freeOf L=F:=⟨_,rfl⟩
  have EF:=hZ hF;rw [hF] at FREE PART fl;obtain ⟨m,hm⟩:∃ m,F.length=m:=⟨_,rfl⟩
  have EM:=hZ hm;rw [hm] at fl;clear h hw hF hn hm;go_enter Tryz.func69,Tryz.ntmps69
  go_wp2_with (go_at_call 84;refine FREE.out.mono ?_;rintro e w1 ⟨p,c,rfl,hR,hE⟩;rw [List.length_map,EM.out];have RR:=hZ hR.at_;have E1:=hZ hE)
  clear hR hE FREE;have lle:=RR.out.le;have lcap:=RR.out.cap;rw [List.length_map,EM.out] at lle
  go_loopg [4,5] m (fun g b i wr=>∃ (j bf:Nat),j<=m/\m-j<=g/\i = .int .i64 j/\b = .int .i64 bf/\bf < n/\Hid (Hp.bef 16 F j=bf)/\Hid (Ext w1 wr)/\Hid (Hp.FreeTo (Hp.ow S.words) F j))
  case atStart=>exact ⟨0,16,Nat.zero_le _,by omega,rfl,rfl,by omega,hZ (Hp.bef_zero _ _),hZ (Ext.refl _),hZ (Hp.FreeTo.zero _ _)⟩
  case round=>
   obtain ⟨j,bf,hj,hg,rfl,rfl,hbf,BF,E,FT⟩:=hrel;have Ew:=E1.out.trans E.out;have c2w:=(Ew.cell hlt 2).trans c2;have gbf:=(H.out.ext Ew).get (j:=bf) (by rw [EN.out];exact hbf);obtain ⟨x,hx⟩:∃ x,Hp.ow S.words bf=x:=⟨_,rfl⟩
   rw [hx] at gbf;have HX:=hZ hx;have zb:r.rb < wr.heap.size:=Nat.lt_of_lt_of_le hlt Ew.le;have zg:r.gb < wr.heap.size:=Nat.lt_of_lt_of_le hbb Ew.le;have EW:=hZ Ew;clear Ew hx
   by_cases hlt2:j < m
   . obtain ⟨t,ht⟩:∃ t,F[j]? = some t:=⟨F[j]'(by rw [EM.out];exact hlt2),List.getElem?_eq_getElem (by rw [EM.out];exact hlt2)⟩
     have HTJ:=hZ ht;have hrd:Hp.rd (F.map fun t=>(t.a:Int)) j=some (t.a:Int):=by
      unfold Hp.rd;rw [List.getElem?_map,ht];rfl
     obtain ⟨lb,lo',hlp,hlbb,hlc⟩:=(RR.out.ext E.out).cells (by rw [List.length_map,EM.out];omega);have gl:=hlc j _ hrd;have LCH:=hZ hlc;obtain ⟨p1,p2,p3,p5⟩:=PART.out t (List.mem_of_getElem? ht);have gk:=(H.out.ext EW.out).get (j:=t.a+1) (by rw [EN.out];omega);rw [p5] at gk;have tk:decide ((j:Int) < (m:Int))=true:=dT;have s1:IntKind.i64.wrap ((t.a:Int)+1)=(t.a:Int)+1:=IntWalk.i64_in _ (by omega);have s2:(0:Int)<=(t.a:Int)+1:=by omega
     have s3:(t.a:Int)+1 < (n:Int):=by omega
     have s4:((t.a:Int)+1).toNat=t.a+1:=by omega
     have s5:IntKind.i64.wrap ((t.a:Int)+(t.k:Int))=(t.a:Int)+(t.k:Int):=IntWalk.i64_in _ (by omega);have q1:(bf:Int) < (n:Int):=by omega
     have q2:(j:Int) < (m:Int):=by omega
     clear hrd hlc ht p5;subst hlp
     by_cases hxt:x=(t.a:Int)
     . have HXT:=hZ (HX.out.trans hxt);subst hxt;have t0:((t.a:Int) != (t.a:Int))=false:=by simp
       by_cases hj0:j=0
       . have u0:decide (0 < j)=false:=dF;have FAR:Hid (∀ (i:Nat) (v:Hp.Tl),j=i+1->F[i]? = some v->v.a+v.k ≠ t.a):=hZ (fun i v hi=>by omega);clear hj0;go_upto_region 6 with (fail)
         have pr55a:=fun u_ (h_:Ext wr u_)=>(h_.cell zb 2).trans c2w
         have pr55b:=fun u_ (h_:Ext wr u_)=>(h_.cell hlbb (lo'+j)).trans gl
         have pr55c:=fun u_ (h_:Ext wr u_)=>(h_.cell zg (r.go+bf)).trans gbf
         refine wp_region_seq (S:=fun W=>Ext wr W) (R:=Ext) (by kernel_rfl) Ext.refl ?_ ?_
         . exact exx
         refine' tkL 0 ?_;refine' tkL 1 ?_;refine' tkL 2 ?_;refine' tkL 3 ?_;refine' tkL 4 ?_;refine' tkL 5 ?_;refine' tkL 6 ?_;refine' tkL 7 ?_;refine' tkL 8 ?_;refine' tkL 9 ?_;refine' tkL 10 ?_;refine' tkL 11 ?_;refine' tkL 12 ?_;refine' tkL 13 ?_;refine' tkL 14 ?_;refine' tkL 15 ?_;refine' tkN 16 ?_;refine' tkN 17 ?_;refine' tkN 18 ?_;refine' tkN 19 ?_;refine' tkN 20 ?_;refine' tkN 21 ?_;refine' tkN 22 ?_;refine' tkN 23 ?_;refine' tkN 24 ?_;refine' tkN 25 ?_;refine' tkN 26 ?_;refine' tkN 27 ?_;refine' tkN 28 ?_;refine' tkN 29 ?_;refine' tkN 30 ?_;refine' tkN 31 ?_;refine' tkN 32 ?_;refine' tkN 33 ?_;refine' tkN 34 ?_;refine' tkN 35 ?_;refine' tkN 36 ?_;refine' tkN 37 ?_;refine' tkN 38 ?_;refine' tkL 39 ?_;refine' tkL 40 ?_;refine wpAnyR_done (by kernel_rfl) ?_ _;intro x1 _ Ex1;clear pr55a pr55b pr55c;have EW1:=hZ (EW.out.trans Ex1);have EE1:=hZ (E.out.trans Ex1);have zl1:=Nat.lt_of_lt_of_le hlbb Ex1.le;have gl1:=(Ex1.cell hlbb _).trans gl;have gk1:=(Ex1.cell zg _).trans gk;have c21:=(Ex1.cell zb 2).trans c2w;have zb1:=Nat.lt_of_lt_of_le zb Ex1.le;have zg1:=Nat.lt_of_lt_of_le zg Ex1.le;have BF2:Hid (Hp.bef 16 F (j+1)=t.a+2):=hZ (Hp.bef_succ HTJ.out);clear u0 gl gk c2w gbf EW E Ex1;go_upto_region 9 with (fail)
         go_loopg [6] t.k (fun g x wx=>∃ k:Nat,t.a+3<=k/\k<=t.a+t.k/\t.a+t.k-k<=g/\x = .int .i64 k/\Hid (Ext x1 wx)/\Hid (∀ q,t.a+3<=q->q < k->Hp.ow S.words q=0))
         case atStart=>exact ⟨t.a+3,Nat.le_refl _,by omega,by omega,by go_num,hZ (Ext.refl _),hZ (fun q h1 h2=>by omega)⟩
         case round=>
          obtain ⟨k,hk1,hk2,hg2,rfl,E3,ZZ⟩:=hrel;have c2x:=(E3.out.cell zb1 2).trans c21;have glx:=(E3.out.cell zl1 (lo'+j)).trans gl1;have gkx:=(E3.out.cell zg1 (r.go+(t.a+1))).trans gk1;have zbx:=Nat.lt_of_lt_of_le zb1 E3.out.le;have zgx:=Nat.lt_of_lt_of_le zg1 E3.out.le;have zlx:=Nat.lt_of_lt_of_le zl1 E3.out.le
          by_cases hkk:k < t.a+t.k
          . have v1:decide ((k:Int) < (t.a:Int)+(t.k:Int))=true:=dT;have gz:=(H.out.ext (EW1.out.trans E3.out)).get (j:=k) (by rw [EN.out];omega);obtain ⟨y,hy⟩:∃ y,Hp.ow S.words k=y:=⟨_,rfl⟩
            rw [hy] at gz;have HY:=hZ hy;clear hy;go_upto_region 9 with (fail)
            have pr56a:=fun u_ (h_:Ext wr u_)=>(h_.cell zbx 2).trans c2x
            have pr56b:=fun u_ (h_:Ext wr u_)=>(h_.cell zlx (lo'+j)).trans glx
            have pr56c:=fun u_ (h_:Ext wr u_)=>(h_.cell zgx (r.go+(t.a+1))).trans gkx
            refine wp_region_seq (S:=fun W=>Ext wr W) (R:=Ext) (by kernel_rfl) Ext.refl ?_ ?_
            . exact exx
            refine' tkL 0 ?_;refine' tkL 1 ?_;refine' tkL 2 ?_;refine' tkL 3 ?_;refine' tkL 4 ?_;refine' tkL 5 ?_;refine' tkL 6 ?_;refine' tkL 7 ?_;refine' tkL 8 ?_;refine' tkL 9 ?_;refine' tkL 10 ?_;refine' tkL 11 ?_;refine' tkL 12 ?_;refine' tkL 13 ?_;refine' tkL 14 ?_;refine' tkL 15 ?_;refine' tkL 16 ?_;refine' tkL 17 ?_;refine wpAnyR_done (by kernel_rfl) ?_ _;intro x3 _ Ex3;clear pr56a pr56b pr56c;have c23:=(Ex3.cell zbx 2).trans c2x;have gz3:=(Ex3.cell zgx _).trans gz
            by_cases hy0:y=0
            . have Z2:Hid (∀ q,t.a+3<=q->q < k+1->Hp.ow S.words q=0):=hZ (fun q h1 h2=>by
                by_cases e:q=k
                . rw [e,HY.out,hy0]
                . exact ZZ.out q h1 (by omega))
              subst hy0;have E4:=hZ (E3.out.trans Ex3)
              go_wp2_with fail
              go_roundg (t.a+t.k-(k+1))
              case measure=>omega
              case rel=>exact ⟨k+1,by omega,by omega,Nat.le_refl _,by go_num,E4,Z2⟩
            have y0:(y != 0)=true:=by simpa using hy0
            clear hy0
            go_wp2_with fail
            go_returns;exact ⟨false,rfl,EW1.out.trans (E3.out.trans Ex3),fun e=>by cases e⟩
          have v1:decide ((k:Int) < (t.a:Int)+(t.k:Int))=false:=dF;go_upto_region 9 with (fail)
          have pr57a:=fun u_ (h_:Ext wr u_)=>(h_.cell zbx 2).trans c2x
          have pr57b:=fun u_ (h_:Ext wr u_)=>(h_.cell zlx (lo'+j)).trans glx
          have pr57c:=fun u_ (h_:Ext wr u_)=>(h_.cell zgx (r.go+(t.a+1))).trans gkx
          refine wp_region_seq (S:=fun W=>Ext wr W) (R:=Ext) (by kernel_rfl) Ext.refl ?_ ?_
          . exact exx
          refine' tkL 0 ?_;refine' tkL 1 ?_;refine' tkL 2 ?_;refine' tkL 3 ?_;refine' tkL 4 ?_;refine' tkL 5 ?_;refine' tkL 6 ?_;refine' tkL 7 ?_;refine' tkL 8 ?_;refine' tkL 9 ?_;refine' tkL 10 ?_;refine' tkL 11 ?_;refine' tkL 12 ?_;refine' tkL 13 ?_;refine' tkL 14 ?_;refine' tkL 15 ?_;refine' tkL 16 ?_;refine' tkL 17 ?_;refine wpAnyR_done (by kernel_rfl) ?_ _;intro x3 _ Ex3;clear pr57a pr57b pr57c;have gl3:=(Ex3.cell zlx _).trans glx;have E4:=hZ (EE1.out.trans (E3.out.trans Ex3));have FT2:Hid (Hp.FreeTo (Hp.ow S.words) F (j+1)):=hZ (FT.out.step HTJ.out (by rw [BF.out];exact HXT.out) (fun q h1 h2=>ZZ.out q h1 (by omega)) FAR.out)
          go_wp2_with fail
          go_roundg (m-(j+1))
          case measure=>omega
          case rel=>exact ⟨j+1,t.a+2,by omega,Nat.le_refl _,by go_num,by go_num,by omega,BF2,E4,FT2⟩
       obtain ⟨i,hij⟩:∃ i,j=i+1:=⟨j-1,by omega⟩
       obtain ⟨v,hv⟩:∃ v,F[i]? = some v:=⟨F[i]'(by rw [EM.out];omega),List.getElem?_eq_getElem (by rw [EM.out];omega)⟩
       obtain ⟨v1,v2,v3,v5⟩:=PART.out v (List.mem_of_getElem? hv);have hrv:Hp.rd (F.map fun t=>(t.a:Int)) i=some (v.a:Int):=by
        unfold Hp.rd;rw [List.getElem?_map,hv];rfl
       have glv:=LCH.out i _ hrv;have gkv:=(H.out.ext EW.out).get (j:=v.a+1) (by rw [EN.out];omega);rw [v5] at gkv;have HV:=hZ (And.intro hij hv);have u0:decide (0 < j)=true:=dT;have u1:IntKind.i64.wrap ((j:Int)-1)=(i:Int):=by
        rw [show (j:Int)-1=(i:Int) by omega];exact IntWalk.i64_in _ (by omega)
       have u2:(0:Int)<=(i:Int):=by omega
       have u3:(i:Int) < (m:Int):=by omega
       have u4:((i:Int)).toNat=i:=by omega
       have u5:IntKind.i64.wrap ((v.a:Int)+1)=(v.a:Int)+1:=IntWalk.i64_in _ (by omega);have u6:(0:Int)<=(v.a:Int)+1:=by omega
       have u7:(v.a:Int)+1 < (n:Int):=by omega
       have u8:((v.a:Int)+1).toNat=v.a+1:=by omega
       have u9:IntKind.i64.wrap ((v.a:Int)+(v.k:Int))=(v.a:Int)+(v.k:Int):=IntWalk.i64_in _ (by omega);clear hj0 hrv hv v5 hij
       by_cases hadj:v.a+v.k=t.a
       . have t1:((v.a:Int)+(v.k:Int) == (t.a:Int))=true:=by simp;omega
         clear hadj;go_upto_region 6 with (fail)
         have pr58a:=fun u_ (h_:Ext wr u_)=>(h_.cell zb 2).trans c2w
         have pr58b:=fun u_ (h_:Ext wr u_)=>(h_.cell hlbb (lo'+j)).trans gl
         have pr58c:=fun u_ (h_:Ext wr u_)=>(h_.cell zg (r.go+bf)).trans gbf
         have pr58d:=fun u_ (h_:Ext wr u_)=>(h_.cell hlbb (lo'+i)).trans glv
         have pr58e:=fun u_ (h_:Ext wr u_)=>(h_.cell zg (r.go+(v.a+1))).trans gkv
         refine wp_region_seq (S:=fun W=>Ext wr W) (R:=Ext) (by kernel_rfl) Ext.refl ?_ ?_
         . exact exx
         refine' tkL 0 ?_;refine' tkL 1 ?_;refine' tkL 2 ?_;refine' tkL 3 ?_;refine' tkL 4 ?_;refine' tkL 5 ?_;refine' tkL 6 ?_;refine' tkL 7 ?_;refine' tkL 8 ?_;refine' tkL 9 ?_;refine' tkL 10 ?_;refine' tkL 11 ?_;refine' tkL 12 ?_;refine' tkL 13 ?_;refine' tkL 14 ?_;refine' tkL 15 ?_;refine' tkL 16 ?_;refine' tkL 17 ?_;refine' tkL 18 ?_;refine' tkL 19 ?_;refine' tkL 20 ?_;refine' tkL 21 ?_;refine' tkL 22 ?_;refine' tkL 23 ?_;refine' tkL 24 ?_;refine' tkL 25 ?_;refine' tkL 26 ?_;refine' tkL 27 ?_;refine' tkL 28 ?_;refine' tkL 29 ?_;refine' tkL 30 ?_;refine' tkL 31 ?_;refine' tkL 32 ?_;refine' tkL 33 ?_;refine' tkL 34 ?_;refine' tkL 35 ?_;refine' tkL 36 ?_;refine' tkL 37 ?_;refine' tkL 38 ?_;refine' tkL 39 ?_;refine' tkL 40 ?_;refine wpAnyR_done (by kernel_rfl) ?_ _;intro x1 _ Ex1;clear pr58a pr58b pr58c pr58d pr58e
         go_wp2_with fail
         go_returns;exact ⟨false,rfl,EW.out.trans Ex1,fun e=>by cases e⟩
       have t1:((v.a:Int)+(v.k:Int) == (t.a:Int))=false:=by simp;omega
       have FAR:Hid (∀ (i:Nat) (v:Hp.Tl),j=i+1->F[i]? = some v->v.a+v.k ≠ t.a):=hZ (fun i' v' hi hv'=>by
        obtain rfl:i'=i:=by have:=HV.out.1;omega
        rw [HV.out.2] at hv'
        cases hv'
        exact hadj)
       clear hadj;go_upto_region 6 with (fail)
       have pr59a:=fun u_ (h_:Ext wr u_)=>(h_.cell zb 2).trans c2w
       have pr59b:=fun u_ (h_:Ext wr u_)=>(h_.cell hlbb (lo'+j)).trans gl
       have pr59c:=fun u_ (h_:Ext wr u_)=>(h_.cell zg (r.go+bf)).trans gbf
       have pr59d:=fun u_ (h_:Ext wr u_)=>(h_.cell hlbb (lo'+i)).trans glv
       have pr59e:=fun u_ (h_:Ext wr u_)=>(h_.cell zg (r.go+(v.a+1))).trans gkv
       refine wp_region_seq (S:=fun W=>Ext wr W) (R:=Ext) (by kernel_rfl) Ext.refl ?_ ?_
       . exact exx
       refine' tkL 0 ?_;refine' tkL 1 ?_;refine' tkL 2 ?_;refine' tkL 3 ?_;refine' tkL 4 ?_;refine' tkL 5 ?_;refine' tkL 6 ?_;refine' tkL 7 ?_;refine' tkL 8 ?_;refine' tkL 9 ?_;refine' tkL 10 ?_;refine' tkL 11 ?_;refine' tkL 12 ?_;refine' tkL 13 ?_;refine' tkL 14 ?_;refine' tkL 15 ?_;refine' tkL 16 ?_;refine' tkL 17 ?_;refine' tkL 18 ?_;refine' tkL 19 ?_;refine' tkL 20 ?_;refine' tkL 21 ?_;refine' tkL 22 ?_;refine' tkL 23 ?_;refine' tkL 24 ?_;refine' tkL 25 ?_;refine' tkL 26 ?_;refine' tkL 27 ?_;refine' tkL 28 ?_;refine' tkL 29 ?_;refine' tkL 30 ?_;refine' tkL 31 ?_;refine' tkL 32 ?_;refine' tkL 33 ?_;refine' tkL 34 ?_;refine' tkL 35 ?_;refine' tkL 36 ?_;refine' tkL 37 ?_;refine' tkL 38 ?_;refine' tkL 39 ?_;refine' tkL 40 ?_;refine wpAnyR_done (by kernel_rfl) ?_ _;intro x1 _ Ex1;clear pr59a pr59b pr59c pr59d pr59e;clear glv gkv u1 u2 u3 u4 u5 u6 u7 u8 u9 t1;have EW1:=hZ (EW.out.trans Ex1);have EE1:=hZ (E.out.trans Ex1);have zl1:=Nat.lt_of_lt_of_le hlbb Ex1.le;have gl1:=(Ex1.cell hlbb _).trans gl;have gk1:=(Ex1.cell zg _).trans gk;have c21:=(Ex1.cell zb 2).trans c2w;have zb1:=Nat.lt_of_lt_of_le zb Ex1.le;have zg1:=Nat.lt_of_lt_of_le zg Ex1.le;have BF2:Hid (Hp.bef 16 F (j+1)=t.a+2):=hZ (Hp.bef_succ HTJ.out);clear u0 gl gk c2w gbf EW E Ex1;go_upto_region 9 with (fail)
       go_loopg [6] t.k (fun g x wx=>∃ k:Nat,t.a+3<=k/\k<=t.a+t.k/\t.a+t.k-k<=g/\x = .int .i64 k/\Hid (Ext x1 wx)/\Hid (∀ q,t.a+3<=q->q < k->Hp.ow S.words q=0))
       case atStart=>exact ⟨t.a+3,Nat.le_refl _,by omega,by omega,by go_num,hZ (Ext.refl _),hZ (fun q h1 h2=>by omega)⟩
       case round=>
        obtain ⟨k,hk1,hk2,hg2,rfl,E3,ZZ⟩:=hrel;have c2x:=(E3.out.cell zb1 2).trans c21;have glx:=(E3.out.cell zl1 (lo'+j)).trans gl1;have gkx:=(E3.out.cell zg1 (r.go+(t.a+1))).trans gk1;have zbx:=Nat.lt_of_lt_of_le zb1 E3.out.le;have zgx:=Nat.lt_of_lt_of_le zg1 E3.out.le;have zlx:=Nat.lt_of_lt_of_le zl1 E3.out.le
        by_cases hkk:k < t.a+t.k
        . have v1:decide ((k:Int) < (t.a:Int)+(t.k:Int))=true:=dT;have gz:=(H.out.ext (EW1.out.trans E3.out)).get (j:=k) (by rw [EN.out];omega);obtain ⟨y,hy⟩:∃ y,Hp.ow S.words k=y:=⟨_,rfl⟩
          rw [hy] at gz;have HY:=hZ hy;clear hy;go_upto_region 9 with (fail)
          have pr60a:=fun u_ (h_:Ext wr u_)=>(h_.cell zbx 2).trans c2x
          have pr60b:=fun u_ (h_:Ext wr u_)=>(h_.cell zlx (lo'+j)).trans glx
          have pr60c:=fun u_ (h_:Ext wr u_)=>(h_.cell zgx (r.go+(t.a+1))).trans gkx
          refine wp_region_seq (S:=fun W=>Ext wr W) (R:=Ext) (by kernel_rfl) Ext.refl ?_ ?_
          . exact exx
          refine' tkL 0 ?_;refine' tkL 1 ?_;refine' tkL 2 ?_;refine' tkL 3 ?_;refine' tkL 4 ?_;refine' tkL 5 ?_;refine' tkL 6 ?_;refine' tkL 7 ?_;refine' tkL 8 ?_;refine' tkL 9 ?_;refine' tkL 10 ?_;refine' tkL 11 ?_;refine' tkL 12 ?_;refine' tkL 13 ?_;refine' tkL 14 ?_;refine' tkL 15 ?_;refine' tkL 16 ?_;refine' tkL 17 ?_;refine wpAnyR_done (by kernel_rfl) ?_ _;intro x3 _ Ex3;clear pr60a pr60b pr60c;have c23:=(Ex3.cell zbx 2).trans c2x;have gz3:=(Ex3.cell zgx _).trans gz
          by_cases hy0:y=0
          . have Z2:Hid (∀ q,t.a+3<=q->q < k+1->Hp.ow S.words q=0):=hZ (fun q h1 h2=>by
              by_cases e:q=k
              . rw [e,HY.out,hy0]
              . exact ZZ.out q h1 (by omega))
            subst hy0;have E4:=hZ (E3.out.trans Ex3)
            go_wp2_with fail
            go_roundg (t.a+t.k-(k+1))
            case measure=>omega
            case rel=>exact ⟨k+1,by omega,by omega,Nat.le_refl _,by go_num,E4,Z2⟩
          have y0:(y != 0)=true:=by simpa using hy0
          clear hy0
          go_wp2_with fail
          go_returns;exact ⟨false,rfl,EW1.out.trans (E3.out.trans Ex3),fun e=>by cases e⟩
        have v1:decide ((k:Int) < (t.a:Int)+(t.k:Int))=false:=dF;go_upto_region 9 with (fail)
        have pr61a:=fun u_ (h_:Ext wr u_)=>(h_.cell zbx 2).trans c2x
        have pr61b:=fun u_ (h_:Ext wr u_)=>(h_.cell zlx (lo'+j)).trans glx
        have pr61c:=fun u_ (h_:Ext wr u_)=>(h_.cell zgx (r.go+(t.a+1))).trans gkx
        refine wp_region_seq (S:=fun W=>Ext wr W) (R:=Ext) (by kernel_rfl) Ext.refl ?_ ?_
        . exact exx
        refine' tkL 0 ?_;refine' tkL 1 ?_;refine' tkL 2 ?_;refine' tkL 3 ?_;refine' tkL 4 ?_;refine' tkL 5 ?_;refine' tkL 6 ?_;refine' tkL 7 ?_;refine' tkL 8 ?_;refine' tkL 9 ?_;refine' tkL 10 ?_;refine' tkL 11 ?_;refine' tkL 12 ?_;refine' tkL 13 ?_;refine' tkL 14 ?_;refine' tkL 15 ?_;refine' tkL 16 ?_;refine' tkL 17 ?_;refine wpAnyR_done (by kernel_rfl) ?_ _;intro x3 _ Ex3;clear pr61a pr61b pr61c;have gl3:=(Ex3.cell zlx _).trans glx;have E4:=hZ (EE1.out.trans (E3.out.trans Ex3));have FT2:Hid (Hp.FreeTo (Hp.ow S.words) F (j+1)):=hZ (FT.out.step HTJ.out (by rw [BF.out];exact HXT.out) (fun q h1 h2=>ZZ.out q h1 (by omega)) FAR.out)
        go_wp2_with fail
        go_roundg (m-(j+1))
        case measure=>omega
        case rel=>exact ⟨j+1,t.a+2,by omega,Nat.le_refl _,by go_num,by go_num,by omega,BF2,E4,FT2⟩
     have t0:(x != (t.a:Int))=true:=by simpa using hxt
     clear hxt;go_upto_region 6 with (fail)
     have pr62a:=fun u_ (h_:Ext wr u_)=>(h_.cell zb 2).trans c2w
     have pr62b:=fun u_ (h_:Ext wr u_)=>(h_.cell hlbb (lo'+j)).trans gl
     have pr62c:=fun u_ (h_:Ext wr u_)=>(h_.cell zg (r.go+bf)).trans gbf
     refine wp_region_seq (S:=fun W=>Ext wr W) (R:=Ext) (by kernel_rfl) Ext.refl ?_ ?_
     . exact exx
     refine' tkL 0 ?_;refine' tkL 1 ?_;refine' tkL 2 ?_;refine' tkL 3 ?_;refine' tkL 4 ?_;refine' tkL 5 ?_;refine' tkL 6 ?_;refine' tkL 7 ?_;refine' tkL 8 ?_;refine' tkL 9 ?_;refine' tkL 10 ?_;refine' tkL 11 ?_;refine' tkL 12 ?_;refine' tkN 13 ?_;refine' tkN 14 ?_;refine' tkN 15 ?_;refine' tkN 16 ?_;refine' tkN 17 ?_;refine' tkN 18 ?_;refine' tkN 19 ?_;refine' tkN 20 ?_;refine' tkN 21 ?_;refine' tkN 22 ?_;refine' tkN 23 ?_;refine' tkN 24 ?_;refine' tkN 25 ?_;refine' tkN 26 ?_;refine' tkN 27 ?_;refine' tkN 28 ?_;refine' tkN 29 ?_;refine' tkN 30 ?_;refine' tkN 31 ?_;refine' tkN 32 ?_;refine' tkN 33 ?_;refine' tkN 34 ?_;refine' tkN 35 ?_;refine' tkN 36 ?_;refine' tkN 37 ?_;refine' tkN 38 ?_;refine' tkN 39 ?_;refine' tkL 40 ?_;refine wpAnyR_done (by kernel_rfl) ?_ _;intro x1 _ Ex1;clear pr62a pr62b pr62c
     go_wp2_with fail
     go_returns;exact ⟨false,rfl,EW.out.trans Ex1,fun e=>by cases e⟩
   have:j=m:=by omega
   subst this;have tk:decide ((j:Int) < (j:Int))=false:=dF
   go_wp2_with fail
   go_returns;refine ⟨_,rfl,EW.out,fun e=>?_⟩;have e0:x=0:=by simpa using e
   have h1:=FT.out;rw [<- EM.out,<- EF.out] at h1;refine h1.all ?_;rw [EF.out,EM.out,BF.out,HX.out,e0]
set_option maxRecDepth 100000 in
set_option maxHeartbeats 16000000 in
theorem rCheckChains_t (h:RAt w r S) (hw:Hp.Tw S L) (hcs:Hp.Cells (Hp.ow S.words) S.sizes S.order S.taken) :
    Calls Tryz.prog 71 #[.pointer (some ⟨r.rb,0,none⟩)] w fun e w'=>∃ b,e = .returned (.bool b)/\Ext w w'/\(b=true -> ∃ ch,Hp.ChOk S 16 ch/\S.taken.length<=Hp.many ch 16):=by
  have CELLS:=hZ (rCells_t h hw);have FLD:=hZ (fun b (hb:b ∈ S.taken) W (hW:Ext w W)=>rField_t (h.ext hW) hw hb);have FAT:=hZ (fun b (hb:b ∈ S.taken) W (hW:Ext w W)=>fieldAt_t (h.ext hW) hw hb);have HW:=hZ hw;have HCS:=hZ hcs;have lo:=hw.lo;have hi:=hw.hi;have few:=hw.few;have H:=hZ h;have hle:=h.words.le;have hcap:=h.words.cap;have hlt:=h.lt;have c2:=h.c2;obtain ⟨gbb,o',hp',hbb,_⟩:=h.words.cells (by omega)
  cases hp'
  obtain ⟨n,hn⟩:∃ n,S.words.length=n:=⟨_,rfl⟩
  have EN:=hZ hn;rw [hn] at lo hi hle c2;obtain ⟨m,hm⟩:∃ m,S.taken.length=m:=⟨_,rfl⟩
  have EM:=hZ hm;rw [hm] at few;clear h hw hn hm hcs;go_enter Tryz.func71,Tryz.ntmps71
  go_wp2_with (go_at_call 82;refine CELLS.out.mono ?_;rintro e w1 ⟨p,c,rfl,hR,hE⟩;rw [cellsI_len,EM.out];have RR:=hZ hR.at_;have E1:=hZ hE)
  clear hR hE CELLS;have lle:=RR.out.le;have lcap:=RR.out.cap;rw [cellsI_len,EM.out] at lle
  go_loopg [4,5] 16 (fun g s i wr=>∃ (j:Nat) (ch:Nat->List Nat) (p4:Option Addr) (c4:Nat),j<=16/\16-j<=g/\i = .int .i64 j/\s = .slice p4 (castL (Hp.allOf ch j)).length c4/\Hid (Row wr w1.heap.size p4 c4 (castL (Hp.allOf ch j)))/\Hid (Ext w1 wr)/\Hid (Hp.ChOk S j ch))
  case atStart=>exact ⟨0,fun _=>[],none,0,Nat.zero_le _,by omega,rfl,rfl,hZ (Row.nil _ _),hZ (Ext.refl _),hZ ⟨fun c hc=>by omega,fun c hc=>by omega,fun c hc=>by omega⟩⟩
  case round=>
   obtain ⟨j,ch,p4,c4,hj,hg,rfl,rfl,R4,E,CO⟩:=hrel;have Ew:=E1.out.trans E.out;have c2w:=(Ew.cell hlt 2).trans c2;have zb:r.rb < wr.heap.size:=Nat.lt_of_lt_of_le hlt Ew.le;have zg:r.gb < wr.heap.size:=Nat.lt_of_lt_of_le hbb Ew.le
   by_cases hlt2:j < 16
   . have gj:=(H.out.ext Ew).get (j:=j) (by rw [EN.out];omega);have tk:decide ((j:Int) < 16)=true:=dT;have jn:(j:Int) < (n:Int):=by omega
     obtain ⟨x0,hx0⟩:∃ x0,Hp.ow S.words j=x0:=⟨_,rfl⟩
     rw [hx0] at gj;have HX0:=hZ hx0;clear hx0 Ew;go_upto_region 7 with (fail)
     go_loopg [4,6] m (fun g s x wx=>∃ (P:List Nat) (y:Int) (p5:Option Addr) (c5:Nat),P.length<=m/\m-P.length<=g/\x = .int .i64 y/\s = .slice p5 (castL (Hp.allOf ch j ++ P)).length c5/\Hid (Hp.PathP (Hp.ow S.words) j P y)/\Hid (∀ a ∈ P,a ∈ S.taken/\Hp.cz (Hp.ow S.words a) (Hp.fz (Hp.ow S.words) S.sizes a)=j)/\Hid ((Hp.allOf ch j ++ P).Nodup)/\Hid (Row wx w1.heap.size p5 c5 (castL (Hp.allOf ch j ++ P)))/\Hid (Ext w1 wx))
     case atStart=>exact ⟨[],x0,p4,c4,Nat.zero_le _,by simp,rfl,by rw [List.append_nil],hZ HX0.out,hZ (by simp),hZ (by rw [List.append_nil];exact CO.out.all_nodup),hZ (by rw [List.append_nil];exact R4.out),E⟩
     case round=>
      obtain ⟨P,y,p5,c5,hPm,hg2,rfl,rfl,PP,PM,ND,R5,E5⟩:=hrel;clear R4 E zb zg c2w gj;have Ew:=E1.out.trans E5.out;have c2w:=(Ew.cell hlt 2).trans c2;have zb:r.rb < wr.heap.size:=Nat.lt_of_lt_of_le hlt Ew.le;have zg:r.gb < wr.heap.size:=Nat.lt_of_lt_of_le hbb Ew.le;have EWH:=hZ Ew;have hcap5:=R5.out.at_.cap;have hle5:=R5.out.at_.le;have INA:Hid (∀ b ∈ Hp.allOf ch j ++ P,b ∈ S.taken):=hZ (fun b hb=>by
       rcases List.mem_append.1 hb with hb | hb
       . obtain ⟨c,h1,h2⟩:=Hp.mem_allOf.1 hb;exact (CO.out.mem c h1 b h2).1
       . exact (PM.out b hb).1)
      have LEN:(castL (Hp.allOf ch j ++ P)).length<=m:=by
       rw [castL_len,<- EM.out];exact Hp.nodup_len ND.out INA.out
      clear Ew
      by_cases hy0:y=0
      . subst hy0;obtain ⟨u1,u2⟩:=CO.out.upd_ PP.out.path PM.out (List.nodup_append.1 ND.out).2.1;have CO2:=hZ u1;have EQ:=hZ u2;have t0:((0:Int) != 0)=false:=by decide
        clear u1 u2
        go_wp2_with fail
        go_roundg (16-(j+1))
        case measure=>omega
        case rel=>exact ⟨j+1,Hp.upd ch j P,p5,c5,by omega,Nat.le_refl _,by go_num,by rw [EQ.out],hZ (by rw [EQ.out];exact R5.out),E5,CO2⟩
      have t0:(y != 0)=true:=by simpa using hy0
      by_cases hyt:y ∈ cellsI S
      . obtain ⟨a,hat,rfl⟩:=cellsI_mem.1 hyt;have HAS1:Hid (∀ W,Ext w1 W->Calls Tryz.prog 85 #[.slice p m c,.int .i64 (a:Int)] W fun e w'=>e = .returned (.bool true)/\Ext W w'):=hZ (fun W hW=>by
         have:=rHas_is (b:=true) (x:=(a:Int)) (by simpa using hyt) (RR.out.ext hW);rw [cellsI_len,EM.out] at this;exact this)
        have pa:=HW.out.part hat;rw [EN.out] at pa;have a17:17<=a:=by omega
        have a5:a+5<=n:=by omega
        by_cases hmt:a ∈ Hp.allOf ch j ++ P
        . have HAS2:Hid (∀ W,Ext wr W->Calls Tryz.prog 85 #[.slice p5 (castL (Hp.allOf ch j ++ P)).length c5,.int .i64 (a:Int)] W fun e w'=>e = .returned (.bool true)/\Ext W w'):=hZ (fun W hW=>rHas_is (by rw [castL_has];simpa using hmt) (R5.out.at_.ext hW))
          clear hmt hat hyt pa hy0;go_upto_region 9 with (fail)
          have pr70a:=fun u_ (h_:Ext wr u_)=>(h_.cell zb 2).trans c2w
          refine wp_region_seq (S:=fun W=>Ext wr W) (R:=Ext) (by kernel_rfl) Ext.refl ?_ ?_
          . exact exx
          refine' tkL 0 ?_;refine' tkL 1 ?_;refine' tkR 2 (v:=.bool true) rfl (Or.inr ⟨by rfl,85,_, ?hx2_1529, ?hy2_1529⟩) ?rest2_1529
          case hx2_1529=>(intro w hSw;go_simp;try with_reducible rfl)
          case hy2_1529=>exact fun w hE=>(HAS1.out _ (E5.out.trans hE)).mono (fun _ _ h=>⟨h.1,h.2,Ext.trans hE h.2⟩)
          refine layy ?_;refine' tkL 3 ?_;refine' tkL 4 ?_;refine' tkL 5 ?_;refine' tkL 6 ?_;refine' tkR 7 (v:=.bool true) rfl (Or.inr ⟨by rfl,85,_, ?hx7_1534, ?hy7_1534⟩) ?rest7_1534
          case hx7_1534=>(intro w hSw;go_simp;try with_reducible rfl)
          case hy7_1534=>exact fun w hE=>(HAS2.out _ hE).mono (fun _ _ h=>⟨h.1,h.2,Ext.trans hE h.2⟩)
          refine layy ?_;refine' tkL 8 ?_;refine' tkL 9 ?_;refine' tkN 10 ?_;refine' tkN 11 ?_;refine' tkN 12 ?_;refine' tkN 13 ?_;refine' tkN 14 ?_;refine' tkN 15 ?_;refine' tkN 16 ?_;refine' tkN 17 ?_;refine' tkN 18 ?_;refine' tkN 19 ?_;refine' tkN 20 ?_;refine' tkN 21 ?_;refine' tkN 22 ?_;refine' tkL 23 ?_;refine wpAnyR_done (by kernel_rfl) ?_ _;intro x1 _ Ex1;clear pr70a
          go_wp2_with fail
          go_returns;exact ⟨false,rfl,E1.out.trans (E5.out.trans Ex1),fun e=>by cases e⟩
        have HMT:=hZ hmt;have HAS2:Hid (∀ W,Ext wr W->Calls Tryz.prog 85 #[.slice p5 (castL (Hp.allOf ch j ++ P)).length c5,.int .i64 (a:Int)] W fun e w'=>e = .returned (.bool false)/\Ext W w'):=hZ (fun W hW=>rHas_is (by rw [castL_has];simpa using HMT.out) (R5.out.at_.ext hW))
        have HAT:=hZ hat;obtain ⟨cv,hcv⟩:∃ cv,Hp.cz (Hp.ow S.words a) (Hp.fz (Hp.ow S.words) S.sizes a)=cv:=⟨_,rfl⟩
        have HCV:=hZ hcv;have hchk:=HW.out.chain_ HCS.out hat;rw [hcv] at hchk;have gx:=(H.out.ext EWH.out).get (j:=a) (by rw [EN.out];omega);obtain ⟨fl,hfl⟩:∃ fl,(Hp.fz (Hp.ow S.words) S.sizes a).length=fl:=⟨_,rfl⟩
        have FLB:Hid (∀ W,Ext w W->Calls Tryz.prog 88 #[.pointer (some ⟨r.rb,0,none⟩),.int .i64 a] W fun e w'=>e = .returned (.slice (some ⟨r.gb,r.go+(a+4),none⟩) fl (r.wc-(a+4)))/\Ext W w'):=hZ (fun W hW=>by rw [<- hfl];exact FLD.out a hat W hW);obtain ⟨t,ht⟩:∃ t,Hp.ow S.words a=t:=⟨_,rfl⟩
        rw [ht] at gx;have CHN:Hid (∀ W,Ext w W->Calls Tryz.prog 137 #[.int .i64 t,.slice (some ⟨r.gb,r.go+(a+4),none⟩) fl (r.wc-(a+4))] W fun e w'=>e = .returned (.int .i64 (cv:Int))/\Ext W w'):=hZ (fun W hW=>by
         have:=rChain (FAT.out a hat W hW) hchk;rw [hfl,ht] at this;exact this)
        have an:(a:Int) < (n:Int):=by omega
        clear hmt hyt hy0 hchk hfl ht pa hcv
        by_cases hcj:cv=j
        . subst hcj;have u1:((cv:Int) != (cv:Int))=false:=by simp
          have s1:IntKind.i64.wrap ((a:Int)+3)=(a:Int)+3:=IntWalk.i64_in _ (by omega);have EP2:castL (Hp.allOf ch cv ++ (P ++ [a]))=castL (Hp.allOf ch cv ++ P) ++ [(a:Int)]:=by simp [castL]
          have EPH:=hZ EP2
          have ND2:Hid ((Hp.allOf ch cv ++ (P ++ [a])).Nodup):=hZ (by
           rw [<- List.append_assoc];exact List.nodup_append.2 ⟨ND.out,List.nodup_cons.2 ⟨by simp,List.nodup_nil⟩,fun b hb d hd e=>by
            rw [List.mem_singleton.1 hd] at e;subst e;exact HMT.out hb⟩)
          have PM2:Hid (∀ b ∈ P ++ [a],b ∈ S.taken/\Hp.cz (Hp.ow S.words b) (Hp.fz (Hp.ow S.words) S.sizes b)=cv):=hZ (fun b hb=>by
           rcases List.mem_append.1 hb with hb | hb
           . exact PM.out b hb
           . rw [List.mem_singleton.1 hb];exact ⟨HAT.out,HCV.out⟩)
          have PP2:=hZ (PP.out.snoc (by omega));have LEN2:(P ++ [a]).length<=m:=by
           rw [<- EM.out];exact Hp.nodup_len (List.nodup_append.1 ND2.out).2.1 fun b hb=>(PM2.out b hb).1
          have LEN3:P.length+1<=m:=by simpa using LEN2
          clear EP2 hat LEN2;have GZ:=hZ (fun W (hW:Ext w W)=>(H.out.ext hW).get (j:=a+3) (by rw [EN.out];omega));generalize Hp.ow S.words (a+3)=y3 at *;go_upto_region 9 with (fail)
          have pr71a:=fun u_ (h_:Ext wr u_)=>(h_.cell zb 2).trans c2w
          have pr71b:=fun u_ (h_:Ext wr u_)=>(h_.cell zg (r.go+a)).trans gx
          refine wp_region_seq (S:=fun W=>Ext wr W) (R:=Ext) (by kernel_rfl) Ext.refl ?_ ?_
          . exact exx
          refine' tkL 0 ?_;refine' tkL 1 ?_;refine' tkR 2 (v:=.bool true) rfl (Or.inr ⟨by rfl,85,_, ?hx2_1553, ?hy2_1553⟩) ?rest2_1553
          case hx2_1553=>(intro w hSw;go_simp;try with_reducible rfl)
          case hy2_1553=>exact fun w hE=>(HAS1.out _ (E5.out.trans hE)).mono (fun _ _ h=>⟨h.1,h.2,Ext.trans hE h.2⟩)
          refine layy ?_;refine' tkL 3 ?_;refine' tkL 4 ?_;refine' tkL 5 ?_;refine' tkL 6 ?_;refine' tkR 7 (v:=.bool false) rfl (Or.inr ⟨by rfl,85,_, ?hx7_1558, ?hy7_1558⟩) ?rest7_1558
          case hx7_1558=>(intro w hSw;go_simp;try with_reducible rfl)
          case hy7_1558=>exact fun w hE=>(HAS2.out _ hE).mono (fun _ _ h=>⟨h.1,h.2,Ext.trans hE h.2⟩)
          refine layy ?_;refine' tkL 8 ?_;refine' tkL 9 ?_;refine' tkL 10 ?_;refine' tkL 11 ?_;refine' tkL 12 ?_;refine' tkL 13 ?_;refine' tkL 14 ?_;refine' tkL 15 ?_;refine' tkL 16 ?_;refine' tkL 17 ?_;refine' tkL 18 ?_;refine' tkR 19 (v:=.slice (some ⟨r.gb,r.go+(a+4),none⟩) fl (r.wc-(a+4))) rfl (Or.inr ⟨by rfl,88,_, ?hx19_1570, ?hy19_1570⟩) ?rest19_1570
          case hx19_1570=>(intro w hSw;go_simp;try with_reducible rfl)
          case hy19_1570=>exact fun w hE=>(FLB.out _ (EWH.out.trans hE)).mono (fun _ _ h=>⟨h.1,h.2,Ext.trans hE h.2⟩)
          refine layy ?_;refine' tkR 20 (v:=.int .i64 (cv:Int)) rfl (Or.inr ⟨by rfl,137,_, ?hx20_1571, ?hy20_1571⟩) ?rest20_1571
          case hx20_1571=>(intro w hSw;go_simp;try with_reducible rfl)
          case hy20_1571=>exact fun w hE=>(CHN.out _ (EWH.out.trans hE)).mono (fun _ _ h=>⟨h.1,h.2,Ext.trans hE h.2⟩)
          refine layy ?_;refine' tkL 21 ?_;refine' tkL 22 ?_;refine' tkL 23 ?_;refine wpAnyR_done (by kernel_rfl) ?_ _;intro x1 _ Ex1;clear pr71a pr71b;have E6:=hZ (E5.out.trans Ex1);have RA:Hid (Row (x1.alloc (.cells #[.int .i64 (a:Int)] 3)) w1.heap.size p5 c5 (castL (Hp.allOf ch cv ++ P))):=hZ ((R5.out.ext Ex1).ext (Ext.alloc (Ext.refl _) _));have w1x:w1.heap.size<=x1.heap.size:=E6.out.le;have few2:(castL (Hp.allOf ch cv ++ P)).length < 10000000:=by omega
          have i3:(a:Int)+3 < (n:Int):=by omega
          go_wp2_with (at_builtin;refine wpList_append_int rfl _ _ rfl (y:=(a:Int)) rfl rfl RA.out (by go_simp) (by omega) (by omega) few2 (by simp;omega) ?_;intro g8 c8 x8 hR8 hG8;obtain ⟨row,hgr,hrow⟩:=id hG8;have E8:Ext w1 x8:=ext_grow (E6.out.alloc _) hgr hrow;have c28:=((E1.out.trans E8).cell hlt 2).trans c2;have gz8:=GZ.out _ (E1.out.trans E8);have R8H:=hZ hR8)
          go_roundg (m-(P.length+1))
          case measure=>omega
          case rel=>exact ⟨P ++ [a],y3,some ⟨g8,0,none⟩,c8,by simpa using LEN3,by simp,rfl,by rw [EPH.out];simp,PP2,PM2,ND2,hZ (by rw [EPH.out];exact R8H.out),hZ E8⟩
        have u1:((cv:Int) != (j:Int))=true:=by simp;omega
        clear hcj hat;go_upto_region 9 with (fail)
        have pr72a:=fun u_ (h_:Ext wr u_)=>(h_.cell zb 2).trans c2w
        have pr72b:=fun u_ (h_:Ext wr u_)=>(h_.cell zg (r.go+a)).trans gx
        refine wp_region_seq (S:=fun W=>Ext wr W) (R:=Ext) (by kernel_rfl) Ext.refl ?_ ?_
        . exact exx
        refine' tkL 0 ?_;refine' tkL 1 ?_;refine' tkR 2 (v:=.bool true) rfl (Or.inr ⟨by rfl,85,_, ?hx2_1577, ?hy2_1577⟩) ?rest2_1577
        case hx2_1577=>(intro w hSw;go_simp;try with_reducible rfl)
        case hy2_1577=>exact fun w hE=>(HAS1.out _ (E5.out.trans hE)).mono (fun _ _ h=>⟨h.1,h.2,Ext.trans hE h.2⟩)
        refine layy ?_;refine' tkL 3 ?_;refine' tkL 4 ?_;refine' tkL 5 ?_;refine' tkL 6 ?_;refine' tkR 7 (v:=.bool false) rfl (Or.inr ⟨by rfl,85,_, ?hx7_1582, ?hy7_1582⟩) ?rest7_1582
        case hx7_1582=>(intro w hSw;go_simp;try with_reducible rfl)
        case hy7_1582=>exact fun w hE=>(HAS2.out _ hE).mono (fun _ _ h=>⟨h.1,h.2,Ext.trans hE h.2⟩)
        refine layy ?_;refine' tkL 8 ?_;refine' tkL 9 ?_;refine' tkL 10 ?_;refine' tkL 11 ?_;refine' tkL 12 ?_;refine' tkL 13 ?_;refine' tkL 14 ?_;refine' tkL 15 ?_;refine' tkL 16 ?_;refine' tkL 17 ?_;refine' tkL 18 ?_;refine' tkR 19 (v:=.slice (some ⟨r.gb,r.go+(a+4),none⟩) fl (r.wc-(a+4))) rfl (Or.inr ⟨by rfl,88,_, ?hx19_1594, ?hy19_1594⟩) ?rest19_1594
        case hx19_1594=>(intro w hSw;go_simp;try with_reducible rfl)
        case hy19_1594=>exact fun w hE=>(FLB.out _ (EWH.out.trans hE)).mono (fun _ _ h=>⟨h.1,h.2,Ext.trans hE h.2⟩)
        refine layy ?_;refine' tkR 20 (v:=.int .i64 (cv:Int)) rfl (Or.inr ⟨by rfl,137,_, ?hx20_1595, ?hy20_1595⟩) ?rest20_1595
        case hx20_1595=>(intro w hSw;go_simp;try with_reducible rfl)
        case hy20_1595=>exact fun w hE=>(CHN.out _ (EWH.out.trans hE)).mono (fun _ _ h=>⟨h.1,h.2,Ext.trans hE h.2⟩)
        refine layy ?_;refine' tkL 21 ?_;refine' tkL 22 ?_;refine' tkL 23 ?_;refine wpAnyR_done (by kernel_rfl) ?_ _;intro x1 _ Ex1;clear pr72a pr72b
        go_wp2_with fail
        go_returns;exact ⟨false,rfl,E1.out.trans (E5.out.trans Ex1),fun e=>by cases e⟩
      have HAS1:Hid (∀ W,Ext w1 W->Calls Tryz.prog 85 #[.slice p m c,.int .i64 y] W fun e w'=>e = .returned (.bool false)/\Ext W w'):=hZ (fun W hW=>by
       have:=rHas_is (b:=false) (x:=y) (by simpa using hyt) (RR.out.ext hW);rw [cellsI_len,EM.out] at this;exact this)
      clear hyt hy0;go_upto_region 9 with (fail)
      have pr73a:=fun u_ (h_:Ext wr u_)=>(h_.cell zb 2).trans c2w
      refine wp_region_seq (S:=fun W=>Ext wr W) (R:=Ext) (by kernel_rfl) Ext.refl ?_ ?_
      . exact exx
      refine' tkL 0 ?_;refine' tkL 1 ?_;refine' tkR 2 (v:=.bool false) rfl (Or.inr ⟨by rfl,85,_, ?hx2_1601, ?hy2_1601⟩) ?rest2_1601
      case hx2_1601=>(intro w hSw;go_simp;try with_reducible rfl)
      case hy2_1601=>exact fun w hE=>(HAS1.out _ (E5.out.trans hE)).mono (fun _ _ h=>⟨h.1,h.2,Ext.trans hE h.2⟩)
      refine layy ?_;refine' tkL 3 ?_;refine' tkL 4 ?_;refine' tkN 5 ?_;refine' tkN 6 ?_;refine' tkN 7 ?_;refine' tkL 8 ?_;refine' tkL 9 ?_;refine' tkN 10 ?_;refine' tkN 11 ?_;refine' tkN 12 ?_;refine' tkN 13 ?_;refine' tkN 14 ?_;refine' tkN 15 ?_;refine' tkN 16 ?_;refine' tkN 17 ?_;refine' tkN 18 ?_;refine' tkN 19 ?_;refine' tkN 20 ?_;refine' tkN 21 ?_;refine' tkN 22 ?_;refine' tkL 23 ?_;refine wpAnyR_done (by kernel_rfl) ?_ _;intro x1 _ Ex1;clear pr73a
      go_wp2_with fail
      go_returns;exact ⟨false,rfl,E1.out.trans (E5.out.trans Ex1),fun e=>by cases e⟩
   have:j=16:=by omega
   subst this;have tk:decide ((16:Int) < 16)=false:=by decide
   have hl:(castL (Hp.allOf ch 16)).length=Hp.many ch 16:=by rw [castL_len,Hp.allOf_len]
   rw [hl];clear hl
   go_wp2_with fail
   go_returns;refine ⟨_,rfl,E1.out.trans E.out,fun e=>⟨ch,CO.out, ?_⟩⟩;have e0:((Hp.many ch 16:Nat):Int)=(m:Int):=by simpa using e
   rw [EM.out];omega
end Go.Proofs.YtdokmmhjmclmnaaGreat
