/-
  Part 16 of a proof: HFn53.
-/
import Derived.Test.YtdokmmhjmclmnaaGreatMV03
import Derived.Test.YtdokmmhjmclmnaaGreatMV15
set_option linter.unusedSimpArgs false
set_option linter.unusedVariables false
set_option linter.unusedSectionVars false
set_option linter.unnecessarySimpa false
namespace Go.Proofs.YtdokmmhjmclmnaaGreat
variable {W' w w' w0 wb:World} {B a b base c cap ce cn f g gb i j k lb m n oc s sc:Nat} {choice t x:Int} {G W fs l o xs z:List Int} {L:List Hp.Tl} {S S':Hp.Hs} {A N T:List Nat} {M:List (Nat × Int)} {op p pe pn q sp:Option Addr} {d:Hd} {acts:List Hp.Act'}
open Go.RowKit Go.Maps Go.Sort Go.Shelf
theorem Hp.Wf.tagsOk {ch:Nat->List Nat} (h:Hp.Wf S B L ch):TagsOk S:=fun a ha=>⟨_,Hp.rd_ow (by have:=h.part ha;omega),by have:=h.tag_le ha;omega,by have:=h.tag_le ha;omega⟩
theorem list13 (h:l.length=13):∃ a0 a1 a2 a3 a4 a5 a6 a7 a8 a9 a10 a11 a12,l=[a0,a1,a2,a3,a4,a5,a6,a7,a8,a9,a10,a11,a12]:=by
 match l,h with
 | [a0,a1,a2,a3,a4,a5,a6,a7,a8,a9,a10,a11,a12],_=>exact ⟨_,_,_,_,_,_,_,_,_,_,_,_,_,rfl⟩
theorem cell_copied {cb gs os:Nat} (hg:w.heap[cb]? = some (.cells (ints (t :: List.replicate 12 0)).toArray 152 (0,0))) (hs:SliceAt w (some ⟨gs,os,none⟩) fs.length fs) (h0:0 < fs.length) (h12:fs.length<=12) :
    ∃ x,(∀ ty,(Builtin.copy_ #[22,22] ty #[.slice (some ⟨cb,1,none⟩) 12 12,.slice (some ⟨gs,os,none⟩) fs.length fs.length]).run Tryz.prog w = .ok (goInt (fs.length:Nat)) x)/\x.heap[cb]? = some (.cells (ints (t :: (fs ++ List.replicate (12-fs.length) 0))).toArray 152 (0,0))/\But [cb] w x:=by
  obtain ⟨b,o,e,hb,hc⟩:=hs.cells h0
  cases e
  refine ⟨w.setRow cb (ints (t :: (fs ++ List.replicate (12-fs.length) 0))).toArray,fun ty=>?_,setRow_heap w cb _ _ _ _ hg,(But.refl _ _).setRow (.inl (by simp)) _⟩;have hm:Nat.min fs.length 12=fs.length:=Nat.min_eq_left h12;have:=run_copy_rowK (P:=Tryz.prog) w 22 22 ty 3 1 cb 1 12 12 ⟨gs,os,none⟩ fs.length fs.length _ 152 (ints fs) Tryz.underlying22 (by kernel_rfl) hg (by rw [hm];simp [ints]) (fun j v hj=>by
   rw [Addr.add_lit];obtain ⟨hj1,hj2⟩:=List.getElem?_eq_some_iff.1 hj;have hj3:j < fs.length:=by simpa [ints] using hj1
   rw [hc j fs[j] (List.getElem?_eq_getElem hj3),<- hj2];simp [ints]) (by simp [ints];omega) (fun v hv=>by
   obtain ⟨x,_,rfl⟩:=List.mem_map.1 hv;rfl)
  have e:((ints (t :: List.replicate 12 0)).toArray.toList.take 1 ++ ints fs ++ (ints (t :: List.replicate 12 0)).toArray.toList.drop (1+(ints fs).length))=ints (t :: (fs ++ List.replicate (12-fs.length) 0)):=by
   rw [List.toList_toArray,ints_length,Nat.add_comm 1];show [Value.int .i64 t] ++ ints fs ++ List.drop fs.length (ints (List.replicate 12 0))=Value.int .i64 t :: ints (fs ++ List.replicate (12-fs.length) 0);unfold ints;rw [List.map_append,List.map_replicate,List.map_replicate,List.drop_replicate,List.append_assoc];rfl
  rw [hm,e] at this;exact this
set_option maxRecDepth 100000 in
set_option maxHeartbeats 16000000 in
theorem areCells_any {v:Value} {ch:Nat->List Nat} (h:LdAt w0 w lb d S v p k G) (hw:Hp.Wf S B L ch) :
    Calls Tryz.prog 63 #[.pointer (some ⟨lb,0,none⟩)] w fun e w'=>e = .returned (.bool true)/\Ext w w':=by
  have H:=hZ h;have HW:=hZ hw;have hhi:=hw.hi;have z1:=h.toHAt.own_lt;have zl:=h.lt1;clear h hw;have hmm:=@run_makeMap Tryz.prog;go_enter Tryz.func63,Tryz.ntmps63;go_upto_region 2 with (fail)
  have E0:Ext w ((w.alloc (.cells #[.pointer (some ⟨lb,0,none⟩)] 107)).alloc (.map #[] 0)):=exx;have x1:((w.alloc (.cells #[.pointer (some ⟨lb,0,none⟩)] 107)).alloc (.map #[] 0)).cell? ⟨w.heap.size,0,none⟩=some (.pointer (some ⟨lb,0,none⟩)):=by go_simp
  have sz:((w.alloc (.cells #[.pointer (some ⟨lb,0,none⟩)] 107)).alloc (.map #[] 0)).heap.size=w.heap.size+2:=by simp
  have MI0:KeysAt ((w.alloc (.cells #[.pointer (some ⟨lb,0,none⟩)] 107)).alloc (.map #[] 0)) (w.heap.size+1) []:=by
   have:=KeysAt.made (w.alloc (.cells #[.pointer (some ⟨lb,0,none⟩)] 107))
   simpa using this
  generalize (w.alloc (.cells #[.pointer (some ⟨lb,0,none⟩)] 107)).alloc (.map #[] 0)=wc at *;have N0:=hZ (H.out.ext E0);have h0:=N0.out.h0;have c3:=N0.out.c3;have ownd:=N0.out.map.owns
  go_wp2_with (at_range;refine wpList_range_own _ rfl _ 102 rfl 3 4 (int_keyed Tryz.underlying3) Tryz.underlying102 _ d.gm _ _ rfl ownd ?_;intro w1 hrg0 hg0 hs0;go_frame)
  have E1:Ext wc w1:=⟨hg0.os,hg0.tape,hg0.output,hg0.size,fun k hk=>hg0.block k hk (by simp)⟩
  have E01:=hZ (E0.trans E1);have MI1:=hZ (MI0.ext E1);have RG:=hZ hrg0;have Y:=hZ ((E1.cell (b:=w.heap.size) (by omega) 0).trans x1);have sz1:wc.heap.size < w1.heap.size:=by omega
  rw [sz] at sz1 RG ⊢;clear hrg0 ownd c3 h0 hg0 hs0 E1 E0 MI0 x1 N0 sz hmm;generalize hrr:w.heap.size+2=rr at RG sz1 ⊢
  go_loopg [4] (Maps.size (mapOf S.taken)) (fun g _ wr=>∃ (left:Lit->Bool) (cnt:Nat) (D:List Nat),cnt<=g/\Hid (wr.ranges Tryz.prog 3 (plainElem (H:=Unit) Tryz.prog 4) d.gm rr S.taken.length (mapOf S.taken) left cnt)/\Hid (KeysAt wr (w.heap.size+1) (D.reverse.map (keyL S)))/\Hid (Ext w wr)/\Hid (wr.cell? ⟨w.heap.size,0,none⟩=some (.pointer (some ⟨lb,0,none⟩)))/\rr < wr.heap.size/\Aside (SeenInv S.taken D left))
  case atStart=>exact ⟨_,_,[],Nat.le_refl _,RG,MI1,E01,Y,by omega,SeenInv.nil _⟩
  case round=>
   obtain ⟨left,cnt,D,hg,RR,MM,EE,YY,hrz,SI⟩:=hrel;clear RG MI1 E01 Y
   go_wp2_with (at_next;refine wpList_next_left _ rfl _ rfl Tryz.underlying3 Tryz.underlying4 d.gm rr _ S.taken left cnt rfl RR.out ?_ ?_)
   . intro hl
     go_wp2_with fail
     go_returns;exact ⟨rfl,EE.out⟩
   intro x c w' cnt' hx hlx hrg' hlt hbut hen;have E2:=hZ (But.toExt EE.out hbut (by simp;omega));have N:=hZ (H.out.ext E2.out);have h0:=N.out.h0;have c0:=N.out.c0;have c1:=N.out.c1;have y1:=(hbut.cell (cell_lt YY.out) (by simp;omega) 0).trans YY.out;have M2:=hZ (MM.out.but hbut (by simp;omega));have RN:=hZ hrg';have px:=HW.out.part hx;have S2H:=hZ (SI.out.step hx hlx);have hxD:x ∉ D:=fun hm=>by
    have:=SI.out.out x hm;rw [hlx] at this
    cases this
   have hkn:keyL S x ∉ D.reverse.map (keyL S):=fun hm=>by
    obtain ⟨b,hb,e⟩:=List.mem_map.1 hm;have hb:b ∈ D:=by simpa using hb
    have:=keyL_inj HW.out (SI.out.sub b hb) hx e;rw [this] at hb;exact hxD hb
   have HKN:=hZ hkn;have hrz2:rr < w'.heap.size:=Nat.lt_of_lt_of_le hrz hbut.size;obtain ⟨t,ht⟩:∃ t,Hp.ow S.words x=t:=⟨_,rfl⟩
   obtain ⟨fs,hfs⟩:∃ fs,Hp.fz (Hp.ow S.words) S.sizes x=fs:=⟨_,rfl⟩
   have ktag:=HW.out.tag_ hx;have kfld:=HW.out.fields_ hx;rw [ht] at ktag;rw [hfs] at kfld;have hto:=HW.out.tag_le hx;rw [ht] at hto;have hfl:=Hp.fz_length (Hp.ow S.words) S.sizes x;rw [hfs,ht] at hfl;have hwz:=Hp.wz_ok HW.out.fr.toFr (HW.out.cells.tags x hx);rw [ht] at hwz;have TAG:=hZ (fun W (hW:Ext w W)=>tag_any (H.out.toHAt.ext hW).c2 rfl (H.out.toHAt.ext hW).le (H.out.toHAt.ext hW).cap (H.out.toHAt.ext hW).words ktag);have FLD:=hZ (fun W (hW:Ext w W)=>fields_any (H.out.ext hW).toHAt kfld);have FAT:=hZ (fun W (hW:Ext w W)=>fields_at (H.out.ext hW).toHAt kfld);have RNK:=hZ (fun W (hW:Ext w W)=>rank_any (p:=d.sp) (n:=S.sizes.length) (c:=d.sc) (t:=t) (H.out.toHAt.ext hW).order (by omega) (by omega));obtain ⟨rk,hrk⟩:∃ rk,Hp.rank S.order t=rk:=⟨_,rfl⟩
   have HRK:=hZ hrk;rw [hrk] at RNK;clear hrk;clear hrg' hlx px hkn hxD YY EE RR MM SI ktag kfld hbut;have f0:0 < fs.length:=by omega
   have f12:fs.length<=12:=by omega
   have HFL:=hZ hfl;have hwz5:0 < Hp.wz S.sizes t-4:=by omega
   clear hfl hwz;obtain ⟨q0,hq0⟩:=rd_get f0;have HQ0:=hZ hq0;have hfs1:((fs.length:Nat):Int) > 0:=by omega
   clear hq0
   go_upto_region 9 with (first
    | (go_at_call 76;refine (TAG.out _ E2.out).mono ?_;rintro e w5 ⟨rfl,hE5⟩;have N5:=hZ (N.out.ext hE5);have h05:=N5.out.h0;have c05:=N5.out.c0;have c15:=N5.out.c1;have y5:=(hE5.cell (cell_lt y1) 0).trans y1)
    | (go_at_call 126;refine (RNK.out _ (E2.out.trans hE5)).mono ?_;rintro e w6 ⟨rfl,hE6⟩;have EX6:Ext w5 (w6.alloc (.cells #[.int .i64 rk] 3)):=hE6.alloc _;have N6:=hZ (N5.out.ext EX6);have h06:=N6.out.h0;have y6:=(EX6.cell (cell_lt y5) 0).trans y5;have k6:(w6.alloc (.cells #[.int .i64 rk] 3)).cell? ⟨w6.heap.size,0,none⟩=some (.int .i64 rk):=by go_simp)
    | (go_at_call 79;refine (FLD.out _ (E2.out.trans (hE5.trans EX6))).mono ?_;rintro e w8 ⟨rfl,hE8⟩;have N8:=hZ (N6.out.ext hE8);have h08:=N8.out.h0;have y8:=(hE8.cell (cell_lt y6) 0).trans y6;have k8:=(hE8.cell (cell_lt k6) 0).trans k6;obtain ⟨_,_,eq8,_,hc8⟩:=(FAT.out _ (E2.out.trans (hE5.trans (EX6.trans hE8)))).cells f0;cases eq8;have g8:=hc8 0 _ HQ0.out;rw [Nat.add_zero] at g8;clear hc8))
   have E8:=hZ (E2.out.trans (hE5.trans (EX6.trans hE8)));have B8:Ext w' w8:=hE5.trans (EX6.trans hE8);have M8:=hZ (M2.out.ext B8);have R8:=hZ (ranges_of RN.out (B8.block _ (by have:=RN.out.lt;have:=N.out.map.lt;omega)) (B8.block _ RN.out.lt));have hrz8:=Nat.lt_of_lt_of_le hrz2 B8.le;have hbr:w'.heap.size<=w6.heap.size:=(hE5.trans hE6).le;generalize w6.heap.size=br at *;clear hE5 hE6 EX6 hE8 B8 N5 N6 h05 c05 c15 y5 h06 y6 k6 N h0 c0 c1 y1 M2 RN E2 RNK TAG
   cases he:Hp.isEnd t with
   | true=>
    have hE2:Hp.isEnd (Hp.ow S.words x)=true:=by rw [ht];exact he
    have hen:=HW.out.cells.ends x hx hE2;have hq4:Hp.ow S.words (x+4)=q0:=by
     have h1:=HQ0.out;rw [<- hfs] at h1;unfold Hp.rd Hp.fz at h1;rw [Hp.cut_get (by rw [ht];exact hwz5)] at h1
     simpa using h1
    rw [ht,hq4] at hen;have hin:Hp.within (-9999) 9999 q0=true:=by simp [Hp.within];omega
    have IS:=hZ (fun W=>isEnd_is he W);have WI:=hZ (fun W=>hin ▸ within_any (-9999) 9999 q0 W);clear hE2 hin hq4
    by_cases h20:t > 20
    . have hq:=hen.2.2 h20;have u0:decide (t > 20)=true:=decide_eq_true h20;have u1:decide (20 < t)=true:=decide_eq_true h20;subst hq;have u2:((0:Int) != 0)=false:=by decide
      clear hen h20
      go_upto_region 16 with (first
       | (go_at_call 78;refine (IS.out _).mono ?_;rintro e w9 ⟨rfl,hE9⟩)
       | (go_at_call 105;refine (WI.out _).mono ?_;rintro e wz ⟨rfl,hEz⟩))
      have EZ:Ext w8 wz:=hE9.trans hEz;have E10:Ext w8 (wz.alloc (.cells #[.int .i64 t,.int .i64 0,.int .i64 0,.int .i64 0,.int .i64 0,.int .i64 0,.int .i64 0,.int .i64 0,.int .i64 0,.int .i64 0,.int .i64 0,.int .i64 0,.int .i64 0] 152)):=EZ.alloc _;have hg10:(wz.alloc (.cells #[.int .i64 t,.int .i64 0,.int .i64 0,.int .i64 0,.int .i64 0,.int .i64 0,.int .i64 0,.int .i64 0,.int .i64 0,.int .i64 0,.int .i64 0,.int .i64 0,.int .i64 0] 152)).heap[wz.heap.size]? = some (.cells (ints (t :: List.replicate 12 0)).toArray 152 (0,0)):=by
       have:=World.alloc_heap_new wz (.cells #[.int .i64 t,.int .i64 0,.int .i64 0,.int .i64 0,.int .i64 0,.int .i64 0,.int .i64 0,.int .i64 0,.int .i64 0,.int .i64 0,.int .i64 0,.int .i64 0,.int .i64 0] 152)
       simpa [ints] using this
      have zcb:w8.heap.size<=wz.heap.size:=EZ.le;generalize wz.heap.size=cb at *;generalize wz.alloc (.cells #[.int .i64 t,.int .i64 0,.int .i64 0,.int .i64 0,.int .i64 0,.int .i64 0,.int .i64 0,.int .i64 0,.int .i64 0,.int .i64 0,.int .i64 0,.int .i64 0,.int .i64 0] 152)=wt at *;have N10:=hZ (N8.out.ext E10);have h10:=N10.out.h0;have y10:=(E10.cell (cell_lt y8) 0).trans y8;have zy:=cell_lt y10;have zh:=cell_lt h10;have EE10:=hZ (E8.out.trans E10);refine wp_region_any (by kernel_rfl) ?_;have pr26a:=fun u_ (h_:Ext wt u_)=>(h_.cell zy 0).trans y10
      have pr26b:=fun u_ (h_:Ext wt u_)=>(h_.cell zh 0).trans h10
      refine wpAny_to_X (S:=fun W=>Ext wt W) (R:=Ext) 8 8 Ext.refl ?_ ?_ (by rfl)
      . exact Ext.drew exx
      refine' tkY 0 ?_;refine' tkY 1 ?_;refine' tkY 2 ?_;refine' tkY 3 ?_;refine' tkY 4 ?_;refine' tkY 5 ?_;refine' tkY 6 ?_;refine' tkX 7 (v:=.slice (some ⟨d.gw,x+4,none⟩) fs.length fs.length) rfl (Or.inr ⟨by rfl,79,_, ?hx7_520, ?hy7_520⟩) ?rest7_520
      case hx7_520=>(intro w hSw;go_simp;try with_reducible rfl)
      case hy7_520=>exact fun w hE=>(FLD.out _ (EE10.out.trans hE)).mono (fun _ _ h=>⟨h.1,h.2,Ext.trans hE h.2⟩)
      refine layy ?_;refine wpAnyX_done (by kernel_rfl) ?_;intro x1 _ Ex1;clear pr26a pr26b;simp only [List.drop_succ_cons,List.drop_zero];have hg11:x1.heap[cb]? = some (.cells (ints (t :: List.replicate 12 0)).toArray 152 (0,0)):=(Ex1.block _ (Array.getElem?_eq_some_iff.1 hg10).1).trans hg10;obtain ⟨x2,hcp,hg12,hb12⟩:=cell_copied hg11 (FAT.out _ (EE10.out.trans Ex1)) f0 f12;have E12:=hZ (But.toExt EE10.out (But.trans (But.ofExt (l:=[cb]) Ex1) hb12) (by have:=E8.out.le;simp;omega));have B12:But [cb] w8 x2:=(But.ofExt E10).trans ((But.ofExt (l:=[cb]) Ex1).trans hb12);have M12:=hZ (M8.out.but B12 (by have:=M8.out.lt;simp;omega));have y12:=(B12.cell (cell_lt y8) (by have:=cell_lt y8;simp;omega) 0).trans y8;have hk13:=keyL_len HW.out hx;have hkbd:=keyL_bd HW.out hx;have hkeq:keyL S x=t :: (fs ++ List.replicate (12-fs.length) 0):=by unfold keyL;rw [ht,hfs]
      rw [<- hkeq] at hg12;have hlk:=M12.out.look hk13 hkbd HKN.out;have hDl:(D.reverse.map (keyL S)).length < maxLen:=by
       rw [List.length_map,List.length_reverse];have h1:=Hp.nodup_len (l:=D) (m:=S.taken) (List.nodup_append.1 S2H.out.nd).1 (fun y hy=>S2H.out.sub y (by simp [hy]));have:=HW.out.few;unfold maxLen;omega
      obtain ⟨x3,hup,hM13,hT13⟩:=M12.out.put hk13 hkbd hDl;have B13:But [w.heap.size+1] x2 x3:=(But.refl _ _).turned hT13 (.inl (by simp));have E13:=hZ (But.toExt E12.out B13 (by simp));have M13:Hid (KeysAt x3 (w.heap.size+1) ((D ++ [x]).reverse.map (keyL S))):=hZ (by rw [List.reverse_append];exact hM13);have z8:=E8.out.le;have own1:=z1 _ d.gm_own;have R13:=hZ (ranges_of (ranges_of R8.out (B12.block _ (by omega) (by simp;omega)) (B12.block _ R8.out.lt (by have:=R8.out.lt;simp;omega))) (B13.block _ (by have:=B12.size;omega) (by simp;omega)) (B13.block _ (by have:=R8.out.lt;have:=B12.size;omega) (by simp;omega)));have Y13:=hZ ((B13.cell (cell_lt y12) (by simp) 0).trans y12);have hrz13:rr < x3.heap.size:=by have:=B12.size;have:=B13.size;omega
      obtain ⟨a0,a1,a2,a3,a4,a5,a6,a7,a8,a9,a10,a11,a12,hkl⟩:=list13 hk13;rw [hkl] at hg12 hlk hup;simp only [ints,List.map_cons,List.map_nil] at hg12 hlk hup;have QC:∀ (j:Nat) (v:Value),(#[.int .i64 a0,.int .i64 a1,.int .i64 a2,.int .i64 a3,.int .i64 a4,.int .i64 a5,.int .i64 a6,.int .i64 a7,.int .i64 a8,.int .i64 a9,.int .i64 a10,.int .i64 a11,.int .i64 a12]:Array Value)[j]? = some v->x2.cell? ⟨cb,j,none⟩=some v:=fun j v hv=>by simp only [World.cell?,hg12];exact hv
      have qc0:=QC 0 _ rfl;have qc1:=QC 1 _ rfl;have qc2:=QC 2 _ rfl;have qc3:=QC 3 _ rfl;have qc4:=QC 4 _ rfl;have qc5:=QC 5 _ rfl;have qc6:=QC 6 _ rfl;have qc7:=QC 7 _ rfl;have qc8:=QC 8 _ rfl;have qc9:=QC 9 _ rfl;have qc10:=QC 10 _ rfl;have qc11:=QC 11 _ rfl;have qc12:=QC 12 _ rfl;clear QC hkl hk13 hkbd hkeq hg12 hg11 hg10 hM13 hT13 B13 B12 hDl own1 z8 hb12 y12 zy zh h10 y10 E10 EZ N10
      go_wp2_with fail
      go_roundg cnt'
      case measure=>omega
      case rel=>exact ⟨_,cnt',D ++ [x],Nat.le_refl _,R13,M13,E13,Y13,hrz13,(show Aside _ from S2H.out)⟩
    have u0:decide (t > 20)=false:=decide_eq_false h20;have u1:decide (20 < t)=false:=decide_eq_false h20;clear hen h20
    go_upto_region 16 with (first
     | (go_at_call 78;refine (IS.out _).mono ?_;rintro e w9 ⟨rfl,hE9⟩)
     | (go_at_call 105;refine (WI.out _).mono ?_;rintro e wz ⟨rfl,hEz⟩))
    have EZ:Ext w8 wz:=hE9.trans hEz;have E10:Ext w8 (wz.alloc (.cells #[.int .i64 t,.int .i64 0,.int .i64 0,.int .i64 0,.int .i64 0,.int .i64 0,.int .i64 0,.int .i64 0,.int .i64 0,.int .i64 0,.int .i64 0,.int .i64 0,.int .i64 0] 152)):=EZ.alloc _;have hg10:(wz.alloc (.cells #[.int .i64 t,.int .i64 0,.int .i64 0,.int .i64 0,.int .i64 0,.int .i64 0,.int .i64 0,.int .i64 0,.int .i64 0,.int .i64 0,.int .i64 0,.int .i64 0,.int .i64 0] 152)).heap[wz.heap.size]? = some (.cells (ints (t :: List.replicate 12 0)).toArray 152 (0,0)):=by
     have:=World.alloc_heap_new wz (.cells #[.int .i64 t,.int .i64 0,.int .i64 0,.int .i64 0,.int .i64 0,.int .i64 0,.int .i64 0,.int .i64 0,.int .i64 0,.int .i64 0,.int .i64 0,.int .i64 0,.int .i64 0] 152)
     simpa [ints] using this
    have zcb:w8.heap.size<=wz.heap.size:=EZ.le;generalize wz.heap.size=cb at *;generalize wz.alloc (.cells #[.int .i64 t,.int .i64 0,.int .i64 0,.int .i64 0,.int .i64 0,.int .i64 0,.int .i64 0,.int .i64 0,.int .i64 0,.int .i64 0,.int .i64 0,.int .i64 0,.int .i64 0] 152)=wt at *;have N10:=hZ (N8.out.ext E10);have h10:=N10.out.h0;have y10:=(E10.cell (cell_lt y8) 0).trans y8;have zy:=cell_lt y10;have zh:=cell_lt h10;have EE10:=hZ (E8.out.trans E10);refine wp_region_any (by kernel_rfl) ?_;have pr27a:=fun u_ (h_:Ext wt u_)=>(h_.cell zy 0).trans y10
    have pr27b:=fun u_ (h_:Ext wt u_)=>(h_.cell zh 0).trans h10
    refine wpAny_to_X (S:=fun W=>Ext wt W) (R:=Ext) 8 8 Ext.refl ?_ ?_ (by rfl)
    . exact Ext.drew exx
    refine' tkY 0 ?_;refine' tkY 1 ?_;refine' tkY 2 ?_;refine' tkY 3 ?_;refine' tkY 4 ?_;refine' tkY 5 ?_;refine' tkY 6 ?_;refine' tkX 7 (v:=.slice (some ⟨d.gw,x+4,none⟩) fs.length fs.length) rfl (Or.inr ⟨by rfl,79,_, ?hx7_528, ?hy7_528⟩) ?rest7_528
    case hx7_528=>(intro w hSw;go_simp;try with_reducible rfl)
    case hy7_528=>exact fun w hE=>(FLD.out _ (EE10.out.trans hE)).mono (fun _ _ h=>⟨h.1,h.2,Ext.trans hE h.2⟩)
    refine layy ?_;refine wpAnyX_done (by kernel_rfl) ?_;intro x1 _ Ex1;clear pr27a pr27b;simp only [List.drop_succ_cons,List.drop_zero];have hg11:x1.heap[cb]? = some (.cells (ints (t :: List.replicate 12 0)).toArray 152 (0,0)):=(Ex1.block _ (Array.getElem?_eq_some_iff.1 hg10).1).trans hg10;obtain ⟨x2,hcp,hg12,hb12⟩:=cell_copied hg11 (FAT.out _ (EE10.out.trans Ex1)) f0 f12;have E12:=hZ (But.toExt EE10.out (But.trans (But.ofExt (l:=[cb]) Ex1) hb12) (by have:=E8.out.le;simp;omega));have B12:But [cb] w8 x2:=(But.ofExt E10).trans ((But.ofExt (l:=[cb]) Ex1).trans hb12);have M12:=hZ (M8.out.but B12 (by have:=M8.out.lt;simp;omega));have y12:=(B12.cell (cell_lt y8) (by have:=cell_lt y8;simp;omega) 0).trans y8;have hk13:=keyL_len HW.out hx;have hkbd:=keyL_bd HW.out hx;have hkeq:keyL S x=t :: (fs ++ List.replicate (12-fs.length) 0):=by unfold keyL;rw [ht,hfs]
    rw [<- hkeq] at hg12;have hlk:=M12.out.look hk13 hkbd HKN.out;have hDl:(D.reverse.map (keyL S)).length < maxLen:=by
     rw [List.length_map,List.length_reverse];have h1:=Hp.nodup_len (l:=D) (m:=S.taken) (List.nodup_append.1 S2H.out.nd).1 (fun y hy=>S2H.out.sub y (by simp [hy]));have:=HW.out.few;unfold maxLen;omega
    obtain ⟨x3,hup,hM13,hT13⟩:=M12.out.put hk13 hkbd hDl;have B13:But [w.heap.size+1] x2 x3:=(But.refl _ _).turned hT13 (.inl (by simp));have E13:=hZ (But.toExt E12.out B13 (by simp));have M13:Hid (KeysAt x3 (w.heap.size+1) ((D ++ [x]).reverse.map (keyL S))):=hZ (by rw [List.reverse_append];exact hM13);have z8:=E8.out.le;have own1:=z1 _ d.gm_own;have R13:=hZ (ranges_of (ranges_of R8.out (B12.block _ (by omega) (by simp;omega)) (B12.block _ R8.out.lt (by have:=R8.out.lt;simp;omega))) (B13.block _ (by have:=B12.size;omega) (by simp;omega)) (B13.block _ (by have:=R8.out.lt;have:=B12.size;omega) (by simp;omega)));have Y13:=hZ ((B13.cell (cell_lt y12) (by simp) 0).trans y12);have hrz13:rr < x3.heap.size:=by have:=B12.size;have:=B13.size;omega
    obtain ⟨a0,a1,a2,a3,a4,a5,a6,a7,a8,a9,a10,a11,a12,hkl⟩:=list13 hk13;rw [hkl] at hg12 hlk hup;simp only [ints,List.map_cons,List.map_nil] at hg12 hlk hup;have QC:∀ (j:Nat) (v:Value),(#[.int .i64 a0,.int .i64 a1,.int .i64 a2,.int .i64 a3,.int .i64 a4,.int .i64 a5,.int .i64 a6,.int .i64 a7,.int .i64 a8,.int .i64 a9,.int .i64 a10,.int .i64 a11,.int .i64 a12]:Array Value)[j]? = some v->x2.cell? ⟨cb,j,none⟩=some v:=fun j v hv=>by simp only [World.cell?,hg12];exact hv
    have qc0:=QC 0 _ rfl;have qc1:=QC 1 _ rfl;have qc2:=QC 2 _ rfl;have qc3:=QC 3 _ rfl;have qc4:=QC 4 _ rfl;have qc5:=QC 5 _ rfl;have qc6:=QC 6 _ rfl;have qc7:=QC 7 _ rfl;have qc8:=QC 8 _ rfl;have qc9:=QC 9 _ rfl;have qc10:=QC 10 _ rfl;have qc11:=QC 11 _ rfl;have qc12:=QC 12 _ rfl;clear QC hkl hk13 hkbd hkeq hg12 hg11 hg10 hM13 hT13 B13 B12 hDl own1 z8 hb12 y12 zy zh h10 y10 E10 EZ N10
    go_wp2_with fail
    go_roundg cnt'
    case measure=>omega
    case rel=>exact ⟨_,cnt',D ++ [x],Nat.le_refl _,R13,M13,E13,Y13,hrz13,(show Aside _ from S2H.out)⟩
   | false=>
    have kkid:=HW.out.kids_ hx;have hkf:Hp.kz (Hp.ow S.words) S.sizes x=fs:=by
     unfold Hp.kz;rw [ht,he,hfs];rfl
    rw [hkf] at kkid;have ktag:=HW.out.tag_ hx;rw [ht] at ktag;have hkp:kp d x t=some ⟨d.gw,x+4,none⟩:=by simp [kp,he]
    have KIDS:=hZ (fun W (hW:Ext w W)=>hkp ▸ kids_any (H.out.ext hW).toHAt ktag kkid);have IS:=hZ (fun W=>isEnd_is he W);have flat:=HW.out.cells.flat x hx (by rw [ht];exact he);rw [hfs] at flat;have zy8:=cell_lt y8;have zk8:=cell_lt k8;have EV:Hid (∀ W,Ext w8 W->Calls Tryz.prog 124 #[.slice (some ⟨d.gw,x+4,none⟩) fs.length fs.length,.func (.func 127) #[] #[.pointer (some ⟨w.heap.size,0,none⟩),.pointer (some ⟨br,0,none⟩)]] W fun e w'=>e = .returned (.bool true)/\Ext W w'):=hZ (fun W hW=>by
     refine every_any (is:=fun _=>true) (enters_of Tryz.func127 (by kernel_rfl) rfl) (FAT.out W (E8.out.trans hW)) (fun j y hy _ W' hW'=>?_) (by simp);have hm:y ∈ Hp.kz (Hp.ow S.words) S.sizes x:=by rw [hkf];exact List.mem_of_getElem? hy
     obtain ⟨b,hb,rfl,hr⟩:=HW.out.cells.kids x hx y hm;have pb:=HW.out.part hb;have EX:=hW.trans hW';have hc:=areCells1_any (x:=(b:Int)) (r:=rk) (H.out.ext (E8.out.trans EX)) ((EX.cell zy8 0).trans y8) ((EX.cell zk8 0).trans k8) HW.out.tagsOk (by omega) (by omega);have e1:Hp.laterB S rk (b:Int)=true:=by
      unfold Hp.laterB;rw [Hp.has_of hb,Int.toNat_natCast,Hp.rd_ow (by omega)];simp only [Bool.true_and,decide_eq_true_eq];rw [ht,HRK.out] at hr;exact hr
     rw [e1] at hc
     simpa using hc)
    have AL:Hid (∀ W,Ext w8 W->Calls Tryz.prog 109 #[.slice (some ⟨d.gw,x+4,none⟩) fs.length fs.length] W fun e w'=>e = .returned (.bool false)/\Ext W w'):=hZ (fun W hW=>alike_any (FAT.out W (E8.out.trans hW)) f0 flat);clear kkid hkf ktag hkp flat
    go_upto_region 16 with (first
     | (go_at_call 78;refine (IS.out _).mono ?_;rintro e w9 ⟨rfl,hE9⟩;have h09:=(N8.out.ext hE9).h0;have y9:=(hE9.cell zy8 0).trans y8)
     | (go_at_call 109;refine (AL.out _ (hE9.trans (hEk.trans (hEe.trans hEl)))).mono ?_;rintro e wz ⟨rfl,hEz⟩)
     | (go_at_call 124;refine (EV.out _ (hE9.trans hEk)).mono ?_;rintro e we ⟨rfl,hEe⟩;have h0e:=(N8.out.ext (hE9.trans (hEk.trans hEe))).h0;have ye:=((hE9.trans (hEk.trans hEe)).cell zy8 0).trans y8)
     | (go_at_call 80;refine (KIDS.out _ (E8.out.trans hE9)).mono ?_;rintro e wk ⟨rfl,hEk⟩)
     | (go_at_call 80;refine (KIDS.out _ (E8.out.trans (hE9.trans (hEk.trans hEe)))).mono ?_;rintro e wl ⟨rfl,hEl⟩))
    have EZ:Ext w8 wz:=hE9.trans (hEk.trans (hEe.trans (hEl.trans hEz)));clear zy8 zk8 h09 y9 h0e ye;have E10:Ext w8 (wz.alloc (.cells #[.int .i64 t,.int .i64 0,.int .i64 0,.int .i64 0,.int .i64 0,.int .i64 0,.int .i64 0,.int .i64 0,.int .i64 0,.int .i64 0,.int .i64 0,.int .i64 0,.int .i64 0] 152)):=EZ.alloc _;have hg10:(wz.alloc (.cells #[.int .i64 t,.int .i64 0,.int .i64 0,.int .i64 0,.int .i64 0,.int .i64 0,.int .i64 0,.int .i64 0,.int .i64 0,.int .i64 0,.int .i64 0,.int .i64 0,.int .i64 0] 152)).heap[wz.heap.size]? = some (.cells (ints (t :: List.replicate 12 0)).toArray 152 (0,0)):=by
     have:=World.alloc_heap_new wz (.cells #[.int .i64 t,.int .i64 0,.int .i64 0,.int .i64 0,.int .i64 0,.int .i64 0,.int .i64 0,.int .i64 0,.int .i64 0,.int .i64 0,.int .i64 0,.int .i64 0,.int .i64 0] 152)
     simpa [ints] using this
    have zcb:w8.heap.size<=wz.heap.size:=EZ.le;generalize wz.heap.size=cb at *;generalize wz.alloc (.cells #[.int .i64 t,.int .i64 0,.int .i64 0,.int .i64 0,.int .i64 0,.int .i64 0,.int .i64 0,.int .i64 0,.int .i64 0,.int .i64 0,.int .i64 0,.int .i64 0,.int .i64 0] 152)=wt at *;have N10:=hZ (N8.out.ext E10);have h10:=N10.out.h0;have y10:=(E10.cell (cell_lt y8) 0).trans y8;have zy:=cell_lt y10;have zh:=cell_lt h10;have EE10:=hZ (E8.out.trans E10);refine wp_region_any (by kernel_rfl) ?_;have pr28a:=fun u_ (h_:Ext wt u_)=>(h_.cell zy 0).trans y10
    have pr28b:=fun u_ (h_:Ext wt u_)=>(h_.cell zh 0).trans h10
    refine wpAny_to_X (S:=fun W=>Ext wt W) (R:=Ext) 8 8 Ext.refl ?_ ?_ (by rfl)
    . exact Ext.drew exx
    refine' tkY 0 ?_;refine' tkY 1 ?_;refine' tkY 2 ?_;refine' tkY 3 ?_;refine' tkY 4 ?_;refine' tkY 5 ?_;refine' tkY 6 ?_;refine' tkX 7 (v:=.slice (some ⟨d.gw,x+4,none⟩) fs.length fs.length) rfl (Or.inr ⟨by rfl,79,_, ?hx7_536, ?hy7_536⟩) ?rest7_536
    case hx7_536=>(intro w hSw;go_simp;try with_reducible rfl)
    case hy7_536=>exact fun w hE=>(FLD.out _ (EE10.out.trans hE)).mono (fun _ _ h=>⟨h.1,h.2,Ext.trans hE h.2⟩)
    refine layy ?_;refine wpAnyX_done (by kernel_rfl) ?_;intro x1 _ Ex1;clear pr28a pr28b;simp only [List.drop_succ_cons,List.drop_zero];have hg11:x1.heap[cb]? = some (.cells (ints (t :: List.replicate 12 0)).toArray 152 (0,0)):=(Ex1.block _ (Array.getElem?_eq_some_iff.1 hg10).1).trans hg10;obtain ⟨x2,hcp,hg12,hb12⟩:=cell_copied hg11 (FAT.out _ (EE10.out.trans Ex1)) f0 f12;have E12:=hZ (But.toExt EE10.out (But.trans (But.ofExt (l:=[cb]) Ex1) hb12) (by have:=E8.out.le;simp;omega));have B12:But [cb] w8 x2:=(But.ofExt E10).trans ((But.ofExt (l:=[cb]) Ex1).trans hb12);have M12:=hZ (M8.out.but B12 (by have:=M8.out.lt;simp;omega));have y12:=(B12.cell (cell_lt y8) (by have:=cell_lt y8;simp;omega) 0).trans y8;have hk13:=keyL_len HW.out hx;have hkbd:=keyL_bd HW.out hx;have hkeq:keyL S x=t :: (fs ++ List.replicate (12-fs.length) 0):=by unfold keyL;rw [ht,hfs]
    rw [<- hkeq] at hg12;have hlk:=M12.out.look hk13 hkbd HKN.out;have hDl:(D.reverse.map (keyL S)).length < maxLen:=by
     rw [List.length_map,List.length_reverse];have h1:=Hp.nodup_len (l:=D) (m:=S.taken) (List.nodup_append.1 S2H.out.nd).1 (fun y hy=>S2H.out.sub y (by simp [hy]));have:=HW.out.few;unfold maxLen;omega
    obtain ⟨x3,hup,hM13,hT13⟩:=M12.out.put hk13 hkbd hDl;have B13:But [w.heap.size+1] x2 x3:=(But.refl _ _).turned hT13 (.inl (by simp));have E13:=hZ (But.toExt E12.out B13 (by simp));have M13:Hid (KeysAt x3 (w.heap.size+1) ((D ++ [x]).reverse.map (keyL S))):=hZ (by rw [List.reverse_append];exact hM13);have z8:=E8.out.le;have own1:=z1 _ d.gm_own;have R13:=hZ (ranges_of (ranges_of R8.out (B12.block _ (by omega) (by simp;omega)) (B12.block _ R8.out.lt (by have:=R8.out.lt;simp;omega))) (B13.block _ (by have:=B12.size;omega) (by simp;omega)) (B13.block _ (by have:=R8.out.lt;have:=B12.size;omega) (by simp;omega)));have Y13:=hZ ((B13.cell (cell_lt y12) (by simp) 0).trans y12);have hrz13:rr < x3.heap.size:=by have:=B12.size;have:=B13.size;omega
    obtain ⟨a0,a1,a2,a3,a4,a5,a6,a7,a8,a9,a10,a11,a12,hkl⟩:=list13 hk13;rw [hkl] at hg12 hlk hup;simp only [ints,List.map_cons,List.map_nil] at hg12 hlk hup;have QC:∀ (j:Nat) (v:Value),(#[.int .i64 a0,.int .i64 a1,.int .i64 a2,.int .i64 a3,.int .i64 a4,.int .i64 a5,.int .i64 a6,.int .i64 a7,.int .i64 a8,.int .i64 a9,.int .i64 a10,.int .i64 a11,.int .i64 a12]:Array Value)[j]? = some v->x2.cell? ⟨cb,j,none⟩=some v:=fun j v hv=>by simp only [World.cell?,hg12];exact hv
    have qc0:=QC 0 _ rfl;have qc1:=QC 1 _ rfl;have qc2:=QC 2 _ rfl;have qc3:=QC 3 _ rfl;have qc4:=QC 4 _ rfl;have qc5:=QC 5 _ rfl;have qc6:=QC 6 _ rfl;have qc7:=QC 7 _ rfl;have qc8:=QC 8 _ rfl;have qc9:=QC 9 _ rfl;have qc10:=QC 10 _ rfl;have qc11:=QC 11 _ rfl;have qc12:=QC 12 _ rfl;clear QC hkl hk13 hkbd hkeq hg12 hg11 hg10 hM13 hT13 B13 B12 hDl own1 z8 hb12 y12 zy zh h10 y10 E10 EZ N10
    go_wp2_with fail
    go_roundg cnt'
    case measure=>omega
    case rel=>exact ⟨_,cnt',D ++ [x],Nat.le_refl _,R13,M13,E13,Y13,hrz13,(show Aside _ from S2H.out)⟩
end Go.Proofs.YtdokmmhjmclmnaaGreat
